/-
  Part of the proof of SolidNormals.
-/
import Derived.Test.YtflhfjdapojoiaaGreatDoorEa
set_option maxRecDepth 100000
set_option maxHeartbeats 20000000
set_option linter.all false
open Go Go.RowKit Go.Proofs
namespace Trn
section
variable[D:DR]
variable{P:Program}{N:Nat}{ops:Array Oper}{Γ aA:Ctx}{d:Option Tmp}{ty:TypeId}{pos:String}{af:Array Edge}{g:Option (Nat×Bool)}
variable{T:ato}{l:att Ty}{sz t:Nat}{E:ato}{x:atq}{bytes dd:Nat}{w:arG}{H:HV}{T2:ato}{w0:ar P}{l2:att Ty}{a:Act}{τ:Ty}{s:Nat}{H0:HV}{n:Int}{v:arH}{ps:att (Nat×atq)}{l':att Ty}{T':ato}{y:atq}{m:Int}{eI:Ctx}
def afv(hx:Arg Γ x (TI .i64 m))(hy:Arg Γ y (TI .i64 n))(h:Bh (m-n)):bR P Γ ⟨d,.binOp .sub T x y T',ty,pos,af,g⟩ (.val<|TI .i64<|m-n):=by
 have:=AY (P:=P) (d:=d) (ty:=ty) (pos:=pos) (af:=af) (g:=g) (T:=T) (T':=T') hx hy;rwa [wrap_i64 h] at this
def afy(hx:Arg Γ x (TI .i64 m))(hy:Arg Γ y (TI .i64 n))(h:Bh (m*n)):bR P Γ ⟨d,.binOp .mul T x y T',ty,pos,af,g⟩ (.val<|TI .i64<|m*n):=by
 have:=xE (P:=P) (d:=d) (ty:=ty) (pos:=pos) (af:=af) (g:=g) (T:=T) (T':=T') hx hy;rwa [wrap_i64 h] at this
def afw(hx:Arg Γ x (TI .i64 m))(hy:Arg Γ y (TI .i64 n))(hn:n≠0)(h:Bh (m.tdiv n)):bR P Γ ⟨d,.binOp .quo T x y T',ty,pos,af,g⟩ (.val<|TI .i64<|m.tdiv n):=by
 have:=abM (P:=P) (d:=d) (ty:=ty) (pos:=pos) (af:=af) (g:=g) (T:=T) (T':=T') hx hy hn;rwa [wrap_i64 h] at this
def afx(hx:Arg Γ x (TI .i64 n))(h:Bh (-n)):bR P Γ ⟨d,.unOp .neg T x,ty,pos,af,g⟩ (.val<|TI .i64<| -n):=by
 have:=abN (P:=P) (d:=d) (ty:=ty) (pos:=pos) (af:=af) (g:=g) (T:=T) hx;rwa [Int.zero_sub,wrap_i64 h] at this
def mI(P:atp)(T:ato):Bool:=match P.underlying T with|some (.slice _)=>true|_=>false
def E7(h:mI P T=true):∃e,P.underlying T=some (.slice e):=by
 unfold mI at h;split at h
 ·rename_i e hu;exact⟨e,hu⟩
 ·cases h
def isStr(P:atp)(T:ato):Bool:=match P.underlying T with|some .string=>true|_=>false
def Gk(h:isStr P T=true):P.underlying T=some .string:=by
 unfold isStr at h;split at h
 ·assumption
 ·cases h
def MQ{ty:ato}(h:mI P T=true)(ad:av8 Addr)(n c:Nat)(w:arG):(Builtin.len_ #[T] ty #[.slice ad n c]).run P w= .ok (.int .i64 n) w:=by
 obtain⟨e,hu⟩:=E7 h;simp[Builtin.len_,aV hu,goInt]
def aiL(hT:mI P T=true)(hx:Arg Γ x (Fj l)):bR P Γ ⟨d,.call ⟨.builtin .len,#[x],#[T]⟩,ty,pos,af,g⟩ (.val<|TI .i64 l.length):=
 bE fun _ _ _ a w H hs=>by
  obtain⟨ad,cap,e,_⟩:=hx.ok hs;exact⟨_,by simp[execOp,resolve,invoke,builtin,e,MQ hT],rfl,rfl⟩
def VT{s:ByteArray}(hT:isStr P T=true)(hx:Arg Γ x (U7 s)):bR P Γ ⟨d,.call ⟨.builtin .len,#[x],#[T]⟩,ty,pos,af,g⟩ (.val<|TI .i64 s.size):=
 bE fun _ _ _ a w H hs=>by
  have e:a.eval x= .string s:=hx.ok hs;exact⟨_,by simp[execOp,resolve,invoke,builtin,e,Builtin.len_,aV<|Gk hT,goInt],rfl,rfl⟩
def agZ{B:ar P}(h:(bO.buf E sz l).holds B a w H v):∃ad cap,v= .slice ad l.length cap:=by
 obtain⟨xs,⟨_,hc⟩,_⟩:=h;rcases hc with⟨e,hl⟩|⟨g,cap,cur,e,_⟩
 ·exact⟨none,0,by rw[e,hl]⟩
 ·exact⟨_,cap,e⟩
def Tz(hT:mI P T=true)(hs:look Γ s=some (.same t))(ht:look Γ t=some (.buf E sz l)):bR P Γ ⟨d,.call ⟨.builtin .len,#[.tmp s],#[T]⟩,ty,pos,af,g⟩ (.val<|TI .i64 l.length):=
 bE fun _ _ _ a w H dh=>by
  obtain⟨ad,cap,e⟩:=agZ<|dh.holds _<|aF ht
  have e2:bh a s=bh a t:=dh.holds _<|aF hs
  have e3:a.eval (.tmp s)= .slice ad l.length cap:=e2.trans e;exact⟨_,by simp[execOp,resolve,invoke,builtin,e3,MQ hT],rfl,rfl⟩
def eX:bR P Γ ⟨d,.move<| .tmp t,ty,pos,af,g⟩ (.same t):=
 bE fun _ _ _ a _ _ _=>⟨bh a t,rfl,rfl,rfl⟩
def ZJ:bR P Γ ⟨d,.assign<| .const<| .slice none 0 0,ty,pos,af,g⟩ (.buf E sz []):=
 ZK fun w0 _ _ a w _ _=>⟨.slice none 0 0,rfl,⟨[],World.ownsRow_nil w _ _ _,rfl,fun b h=>by simp[Value.ownBlock] at h⟩,fun b h=>by simp[bO.owns,Value.ownBlock] at h⟩
open Classical in
def Hi(hs:Sat w0 H0 N Γ a w H){s s':bO}(ht:(t,s)∈Γ)(S:Nat->Prop)(hS:∀b,S b->s.owns w (bh a t) b/\w0.nX b)
 (hv:s'.holds w0 a w (fun r=>if S r then w.heap[r]? else H r) (bh a t))(ho:∀b,s'.owns w (bh a t) b->s.owns w (bh a t) b):Sat w0 H0 N ((t,s')::da t Γ) a w (fun r=>if S r then w.heap[r]? else H r):=by
 have low:∀b,S b->b<w.heap.size/\H b=none/\∃o,w.heap[b]? =some o/\MY o:=fun b h=>bO.oq (hs.holds _ ht) (hS b h).1
 have hle:HV.le H (fun r=>if S r then w.heap[r]? else H r):=by
  intro r o h;by_cases e:S r
  ·rw[(low r e).2.1] at h;cases h
  ·simp[e,h]
 have acA:∀q∈da t Γ,∀b,q.2.owns w (bh a q.1) b-> ¬S b:=by
  intro q hq b Uh e;exact hs.sep _ ht q (bG q hq).1 (fun e=>(bG q hq).2 e.symm) b (hS b e).1 Uh
 have rH:Sat w0 H0 N (da t Γ) a w (fun r=>if S r then w.heap[r]? else H r):=by
  refine Bx (ds:=a.defers) hs hs.below (bp _) ?_ (bp _) hle ?_ ?_ ?_ ?_
  ·intro _ r hr hx;have: ¬S r:=fun e=>by
    rcases(hS r e).2 with h|h
    ·omega
    ·exact hx h
   simp[this]
  ·intro r o h;by_cases e:S r
   ·simpa[e] using h
   ·simp only[e,if_false] at h;exact hs.sub r o h
  ·intro _ b _ hb;have: ¬S b:=fun e=>by have:=ar.yl (hS b e).2;omega
   simp[this]
  ·intro p hp;exact⟨(bG p hp).1,fun b hb=>⟨rfl,by simp[acA p hp b hb]⟩⟩
  ·refine hs.nd.kept fun D _ h1 h2=>⟨h1,?_⟩
   have: ¬S D:=fun e=>by
    obtain⟨_,_,o,ho,Vg⟩:=low D e;rw[h1] at ho;cases ho;exact Vg
   simp[this,h2]
 refine⟨rH.nd,rH.sz,rH.below,rH.Jm,rH.sub,?_,?_,rH.gl⟩
 ·intro p hp;rcases aY.1 hp with e|hp
  ·subst e;exact hv
  ·exact rH.holds p hp
 ·intro p hp q hq hne b hb ju;rcases aY.1 hp with e|hp
  ·subst e;rcases aY.1 hq with e|hq
   ·subst e;exact hne rfl
   ·exact hs.sep _ ht q (bG q hq).1 hne b (ho b hb) ju
  ·rcases aY.1 hq with e|hq
   ·subst e;exact hs.sep p (bG p hp).1 _ ht hne b hb<|ho b ju
   ·exact rH.sep p hp q hq hne b hb ju
open Classical in
def DG(hs:Sat w0 H0 N Γ a w H){s:bO}(ht:(t,s)∈Γ)(S:Nat->Prop)(hS:∀b,S b->s.owns w (bh a t) b/\w0.nX b)
 (hv:τ.ok (fun r=>if S r then w.heap[r]? else H r) (bh a t)):Sat w0 H0 N ((t,.val τ)::da t Γ) a w (fun r=>if S r then w.heap[r]? else H r):=Hi (s':= .val τ) hs ht S hS hv<|fun _ h=>h.elim
def afa(hs:Sat w0 H0 N Γ a w H)(ht:look Γ t=some (.buf E sz l)):∃H',Sat w0 H0 N ((t,.val<|Fj l)::da t Γ) a w H':=by
 have hb:=hs.holds _<|aF ht
 obtain⟨xs,hr,ho,hn⟩:=hb;refine⟨_,DG hs (aF ht) (fun b=>(bh a t).ownBlock=some b) (fun b h=>⟨h,(hn b h).2⟩) ?_⟩;refine AK (a:=a) ⟨xs,hr,ho,hn⟩ ?_ (fun b hb _ o hbo=>by simp[hb,hbo]);intro r o h;by_cases e:(bh a t).ownBlock=some r
 ·rw[(hn r e).1] at h;cases h
 ·simp[e,h]
def afr(ht:look Γ t=some (.buf E sz l)):ub w0 N Γ ((t,.val<|Fj l)::da t Γ):=fun _ _ _ _ hs=>afa hs ht
def abk(hs:Sat w0 H0 N Γ a w H)(ht:look Γ t=some (.own T τ)):∃H',Sat w0 H0 N ((t,.val<|Df τ)::da t Γ) a w H':=by
 obtain⟨b,x,e,hb,hx,hH,hB⟩:=hs.holds _<|aF ht
 simp only at e;refine⟨_,DG hs (aF ht) (fun c=>c=b) (fun c h=>by subst h;exact⟨⟨_,e,rfl⟩,hB⟩) ?_⟩;have pt:=τ.shape hx;refine⟨b,0,x.cells,T,(0,0),e,by simp[hb],by rw[pt.size];omega,?_⟩;rw[IY pt.size,<-pt.eq];refine τ.mono ?_ hx;intro r o h;by_cases e:r=b
 ·subst e;rw[hH] at h;cases h
 ·simp[e,h]
def Ca(ht:look Γ t=some (.own T τ)):ub w0 N Γ ((t,.val<|Df τ)::da t Γ):=fun _ _ _ _ hs=>abk hs ht
def vA(P:atp)(T:ato)(E:ato)(sz bytes:Nat):Bool:=
 match P.underlying T with
 |some (.slice e)=>Nat.beq e E&&(match P.info? e with
  |some i=>Nat.beq i.size sz&&Nat.beq i.bytes bytes&&(match i.zero with|some z=>Nat.beq z.cells.size sz|none=>false)&&Nat.ble 1 sz
  |none=>false)
 |_=>false
def U3(h:vA P T E sz bytes=true):∃i z,P.underlying T=some (.slice E)/\P.info? E=some i/\i.zero=some z/\i.size=sz/\i.bytes=bytes/\z.cells.size=sz/\0<sz:=by
 unfold vA at h;split at h
 ·rename_i e hu;simp only[bY] at h;obtain⟨h1,h2⟩:=h;have h1:=fL h1;subst h1;split at h2
  ·rename_i i hi;simp only[bY] at h2;obtain⟨⟨⟨h3,h4⟩,h5⟩,h6⟩:=h2;split at h5
   ·rename_i z hz;exact⟨i,z,hu,hi,hz,fL h3,fL h4,fL h5,gK h6⟩
   ·cases h5
  ·cases h2
 ·cases h
def y8(hT:vA P T E sz bytes=true){B:Nat}{n:Nat}{xs:att arH}(hown:w.ownsRow B E sz v n xs)(hB:B<=w.heap.size)
 {ad:av8 Addr}{m c:Nat}{news:att arH}(hl:news.length=m*sz)(alY:∀j u,news[j]? =some u->∃x,ad=some x/\w.cell? (x.add j)=some u)(h1:∀u∈news,u.oneCell'=true)(had:ad=none->m=0)
 (KO:n+m<=maxLen)(qO:(n+m)*bytes<=140737488355328)(ty:ato):
  ∃v' w',(Builtin.append_ #[T,T] ty #[v,.slice ad m c]).run P w= .ok v' w'/\w'.ownsRow B E sz v' (n+m) (xs++news)/\CR w w' v.ownBlock/\∀b,v'.ownBlock=some b->v.ownBlock=some b\/w.heap.size<=b:=by
 obtain⟨i,z,hu,hi,hz,hsz,hby,hzs,hpos⟩:=U3 hT;cases ad with
 |none=>
  have hm:=had rfl;subst hm;have hn:news=[]:=pZ (by simpa using hl);subst hn;refine⟨v,w,?_,by simpa using hown,⟨⟨rfl,rfl,rfl,bp _,fun _ _ _=>rfl⟩,bp _⟩,fun b hb=> .inl hb⟩;rcases hown.2 with⟨rfl,rfl⟩|⟨g,cap,cur,rfl,hbg,hg,hnc,_⟩
  ·simp[Builtin.append_,aV hu,Go.sizeOf,typeInfo,program,Sem.run,hi,Builtin.lenOf,Builtin.firstCells]
  ·simp[Builtin.append_,aV hu,Go.sizeOf,typeInfo,program,Sem.run,hi,Builtin.lenOf,Builtin.firstCells,hnc,storeCells]
 |some ad=>
  have Nw:∀j u,news[j]? =some u->w.cell? (ad.add j)=some u:=fun j u h=>by
   obtain⟨x,e,hx⟩:=alY j u h;cases e;exact hx
  obtain⟨v',w',hr,h2,h3,h4⟩:=run_append_own (P:=P) w B T ty E i z sz bytes hu hi hz hsz hby hzs hpos v n xs hown ad m c news hl Nw h1 KO qO hB;have key:w.drawn<=w'.drawn/\∀b,v'.ownBlock=some b->v.ownBlock=some b\/w.heap.size<=b:=by
   subst hsz;subst hby;rcases hown.2 with⟨rfl,rfl⟩|⟨g,cap,cur,rfl,hbg,hg,hnc,hcm,hcs,htake⟩
   ·by_cases hm:m=0
    ·subst hm;have hf:=run_firstCells_some (P:=P) w i.size 0 ad 0 c news hl Nw;have LV:(Builtin.append_ #[T,T] ty #[.slice none 0 0,.slice (some ad) 0 c]).run P w= .ok (.slice none 0 0) w:=by
      have hn0:news=[]:=pZ (by simpa using hl);subst hn0;simp only[Builtin.firstCells] at hf;simp[Builtin.append_,aV hu,Go.sizeOf,typeInfo,program,Sem.run,hi,Builtin.lenOf,Builtin.firstCells,loadCells,loadCellsFrom]
     rw[hr] at LV;cases LV;exact⟨bp _,fun b hb=>by simp[Value.ownBlock] at hb⟩
    ·have ajL:(m:Int)<=9223372036854775807:=by simp only[maxLen] at KO;omega
     have LV:=run_append_nil (P:=P) (w:=w) T ty E i z hu hi hz ad m c news hl Nw (by omega) ajL (by rw[vd] at qO;omega);rw[hr] at LV;cases LV;refine⟨wR _,fun b hb=>?_⟩;simp[Value.ownBlock] at hb;exact .inr (by omega)
   ·by_cases Ke:n+m<=cap
    ·have agr:n*i.size+news.length<=cur.size:=by rw[hl,hcs,<-pb];exact mF _ Ke
     have LV:=run_append_room (P:=P) w T ty E i hu hi g n cap cur hg ad m c news hl Nw h1 Ke agr;rw[hr] at LV;cases LV;exact⟨bp _,fun b hb=> .inl hb⟩
    ·have holds:∀j u,xs[j]? =some u->w.cell? ((⟨g,0,none⟩:Addr).add j)=some u:=hown.cells (g:=g) rfl;have ajL:((n+m:Nat):Int)<=9223372036854775807:=by simp only[maxLen] at KO;omega
     have LV:=run_append_grow (P:=P) w T ty E i z hu hi hz ⟨g,0,none⟩ n cap xs hown.1 holds ad m c news hl Nw (by omega) ajL (growslice_fits (by omega) qO);rw[hr] at LV;cases LV;refine⟨wR _,fun b hb=>?_⟩;simp[Value.ownBlock] at hb;exact .inr (by omega)
  exact⟨v',w',hr,h2,⟨h3,JQ.of key.1⟩,key.2⟩
def CO{ty:ato}(h1:mI P T=true)(h2:mI P T2=true)(args:awa arH)(w:arG):(Builtin.append_ #[T,T2] ty args).run P w=(Builtin.append_ #[T,T] ty args).run P w:=by
 obtain⟨e1,u1⟩:=E7 h1;obtain⟨e2,u2⟩:=E7 h2;unfold Builtin.append_;have g0:(#[T,T2]:awa ato)[0]? =some T:=rfl;have g1:(#[T,T2]:awa ato)[1]? =some T2:=rfl;have g2:(#[T,T]:awa ato)[0]? =some T:=rfl;have g3:(#[T,T]:awa ato)[1]? =some T:=rfl;simp only[g0,g1,g2,g3];cases args[0]? with
 |none=>rfl
 |some a0=>cases args[1]? with
  |none=>rfl
  |some a1=>
   simp only[fE,aV u1,eS];cases a0<;>try rfl
   simp only[fE,aV u1,aV u2,eS,pT]
def N9(h:vA P T E sz bytes=true):mI P T=true:=by
 obtain⟨i,z,hu,_⟩:=U3 h;simp[mI,hu]
def MH(sub:∀r o,H r=some o->w.heap[r]? =some o)(h:(Fj l).ok H v):∃ad cap news,v= .slice ad l.length cap/\vH H l news/\(∀j u,news[j]? =some u->∃x,ad=some x/\w.cell? (x.add j)=some u)/\(ad=none->l.length=0):=by
 obtain⟨ad,cap,e,_,hx⟩:=h;by_cases hl:l=[]
 ·subst hl;exact⟨ad,cap,[],e,rfl,fun j u h=>by simp at h,fun _=>rfl⟩
 ·obtain⟨b,off,cs,E,fr,e1,hb,hsz,ho⟩:=hx hl;refine⟨ad,cap,_,e,ho,?_,fun e=>by rw[e1] at e;cases e⟩;intro j u hj;refine⟨⟨b,off,none⟩,e1,?_⟩;rw[addr_add];rw[yv] at hj;split at hj
  ·simp at hj;simp[World.cell?,sub _ _ hb,hj]
  ·cases hj
def MC(dc:∀q∈eI,q∈Γ)(IU:mI P T2=true)(hs:look eI s=some (.same t))(ht:look eI t=some (.buf E sz l))(hx:Arg eI x (Fj l2))(hT:vA P T E sz bytes=true)(hu:GG sz l2)
 (KO:l.length+l2.length<=maxLen)(qO:(l.length+l2.length)*bytes<=140737488355328)(vD:dd<N):
  Step P N ops ⟨some dd,.call ⟨.builtin .append,#[.tmp s,x],#[T,T2]⟩,ty,pos,af,none⟩ Γ ((dd,.buf E sz<|l++l2)::del dd (da t Γ)):=by
 intro w0 H0 a w H dh K Q k;simp only[Region.wanted,if_true];have hb:=dh.holds _ (dc _<|aF ht);obtain⟨xs,hr,ho,hn⟩:=hb;have e2:bh a s=bh a t:=dh.holds _ (dc _<|aF hs);obtain⟨ad,cap,news,ex,Yb,hc,Wi⟩:=MH dh.sub<|hx.ok<|dh.weaken dc
 have hlen:news.length=l2.length*sz:=by rw[rf Yb,iB hu]
 obtain⟨v',w',sO,h2,h3,h4⟩:=y8 hT hr (iR _) (c:=cap) hlen hc (xn Yb) Wi KO qO ty;unfold Oper.wp;have er:(execOp a.eval ⟨some dd,.call ⟨.builtin .append,#[.tmp s,x],#[T,T2]⟩,ty,pos,af,none⟩).run P w= .ok (.value v') w':=by
  have e3:a.eval (.tmp s)=bh a t:=e2;simp[execOp,resolve,invoke,builtin,e3,ex,CO (N9 hT) IU,sO]
 rw[er,ve];refine k _ w' H (Bw dh (dc _<|aF ht) h3 (fun c hc=>⟨hc,(hn c hc).2⟩) vD (by simp[bO.c6]) ⟨xs++news,by simpa using h2,qz ho Yb,fun b hb=>?_⟩ h4);rcases h4 b hb with h|h
 ·exact hn b h
 ·refine⟨?_,.inl<|df dh.below.size h⟩;cases hh:H b with
  |none=>rfl
  |some o=>have:=xQ dh.sub hh;omega
def Vx(dc:∀q∈eI,q∈Γ){hv:v.oneCell'=true}(IU:mI P T2=true)(hs:look eI s=some (.val<|TEq v hv))(ht:look eI t=some (.KG v E sz l))(hx:Arg eI x (Fj l2))(hT:vA P T E sz bytes=true)(hu:GG sz l2)
 (KO:l.length+l2.length<=maxLen)(qO:(l.length+l2.length)*bytes<=140737488355328)(vD:dd<N):
  Step P N ops ⟨some dd,.call ⟨.builtin .append,#[.tmp s,x],#[T,T2]⟩,ty,pos,af,none⟩ Γ ((dd,.buf E sz<|l++l2)::del dd (da t Γ)):=by
 intro w0 H0 a w H dh K Q k;simp only[Region.wanted,if_true];have hb:=dh.holds _ (dc _<|aF ht);obtain⟨xs,hr,ho,hn⟩:=hb;have e2:bh a s=v:=dh.holds _ (dc _<|aF hs);obtain⟨ad,cap,news,ex,Yb,hc,Wi⟩:=MH dh.sub<|hx.ok<|dh.weaken dc
 have hlen:news.length=l2.length*sz:=by rw[rf Yb,iB hu]
 obtain⟨v',w',sO,h2,h3,h4⟩:=y8 hT hr (iR _) (c:=cap) hlen hc (xn Yb) Wi KO qO ty;unfold Oper.wp;have er:(execOp a.eval ⟨some dd,.call ⟨.builtin .append,#[.tmp s,x],#[T,T2]⟩,ty,pos,af,none⟩).run P w= .ok (.value v') w':=by
  have e3:a.eval (.tmp s)=v:=e2;simp[execOp,resolve,invoke,builtin,e3,ex,CO (N9 hT) IU,sO]
 rw[er,ve];refine k _ w' H (Bw dh (dc _<|aF ht) h3 (fun c hc=>⟨hc,(hn c hc).2⟩) vD (by simp[bO.c6]) ⟨xs++news,by simpa using h2,qz ho Yb,fun b hb=>?_⟩ h4);rcases h4 b hb with h|h
 ·exact hn b h
 ·refine⟨?_,.inl<|df dh.below.size h⟩;cases hh:H b with
  |none=>rfl
  |some o=>have:=xQ dh.sub hh;omega
def Zc(IU:mI P T2=true)(hs:look Γ s=some (.same t))(ht:look Γ t=some (.buf E sz l))(hx:Arg Γ x (Fj l2))(hT:vA P T E sz bytes=true)(hu:GG sz l2)
 (KO:l.length+l2.length<=maxLen)(qO:(l.length+l2.length)*bytes<=140737488355328)(vD:dd<N):
  Step P N ops ⟨some dd,.call ⟨.builtin .append,#[.tmp s,x],#[T,T2]⟩,ty,pos,af,none⟩ Γ ((dd,.buf E sz<|l++l2)::del dd (da t Γ)):=MC (fun _ h=>h) IU hs ht hx hT hu KO qO vD
def aak(IU:mI P T2=true)(hs:look Γ s=some (.same t))(ht:look Γ t=some (.buf E sz l))(hx:Arg Γ x (Fj l2))(hT:vA P T E sz bytes=true)(hu:GG sz l2)
 (KO:l.length+l2.length<=maxLen)(qO:(l.length+l2.length)*bytes<=140737488355328)(vD:dd<N):
  Sa P N ops Γ ⟨some dd,.call ⟨.builtin .append,#[.tmp s,x],#[T,T2]⟩,ty,pos,af,none⟩ t dd (.buf E sz<|l++l2):=fun _ dc=>MC dc IU hs ht hx hT hu KO qO vD
def JV(dc:∀q∈eI,q∈Γ)(IU:mI P T2=true)(ht:look eI t=some (.buf E sz l))(hx:Arg eI x (Fj l2))(hT:vA P T E sz bytes=true)(hu:GG sz l2)
 (KO:l.length+l2.length<=maxLen)(qO:(l.length+l2.length)*bytes<=140737488355328)(vD:dd<N):
  Step P N ops ⟨some dd,.call ⟨.builtin .append,#[.tmp t,x],#[T,T2]⟩,ty,pos,af,none⟩ Γ ((dd,.buf E sz<|l++l2)::del dd (da t Γ)):=by
 intro w0 H0 a w H dh K Q k;simp only[Region.wanted,if_true];have hb:=dh.holds _ (dc _<|aF ht);obtain⟨xs,hr,ho,hn⟩:=hb;obtain⟨ad,cap,news,ex,Yb,hc,Wi⟩:=MH dh.sub<|hx.ok<|dh.weaken dc
 have hlen:news.length=l2.length*sz:=by rw[rf Yb,iB hu]
 obtain⟨v',w',sO,h2,h3,h4⟩:=y8 hT hr (iR _) (c:=cap) hlen hc (xn Yb) Wi KO qO ty;unfold Oper.wp;have er:(execOp a.eval ⟨some dd,.call ⟨.builtin .append,#[.tmp t,x],#[T,T2]⟩,ty,pos,af,none⟩).run P w= .ok (.value v') w':=by
  have e3:a.eval (.tmp t)=bh a t:=rfl;simp[execOp,resolve,invoke,builtin,e3,ex,CO (N9 hT) IU,sO]
 rw[er,ve];refine k _ w' H (Bw dh (dc _<|aF ht) h3 (fun c hc=>⟨hc,(hn c hc).2⟩) vD (by simp[bO.c6]) ⟨xs++news,by simpa using h2,qz ho Yb,fun b hb=>?_⟩ h4);rcases h4 b hb with h|h
 ·exact hn b h
 ·refine⟨?_,.inl<|df dh.below.size h⟩;cases hh:H b with
  |none=>rfl
  |some o=>have:=xQ dh.sub hh;omega
def Vy(IU:mI P T2=true)(ht:look Γ t=some (.buf E sz l))(hx:Arg Γ x (Fj l2))(hT:vA P T E sz bytes=true)(hu:GG sz l2)
 (KO:l.length+l2.length<=maxLen)(qO:(l.length+l2.length)*bytes<=140737488355328)(vD:dd<N):
  Step P N ops ⟨some dd,.call ⟨.builtin .append,#[.tmp t,x],#[T,T2]⟩,ty,pos,af,none⟩ Γ ((dd,.buf E sz<|l++l2)::del dd (da t Γ)):=JV (fun _ h=>h) IU ht hx hT hu KO qO vD
def Ww(IU:mI P T2=true)(ht:look Γ t=some (.buf E sz l))(hx:Arg Γ x (Fj l2))(hT:vA P T E sz bytes=true)(hu:GG sz l2)
 (KO:l.length+l2.length<=maxLen)(qO:(l.length+l2.length)*bytes<=140737488355328)(vD:dd<N):
  Sa P N ops Γ ⟨some dd,.call ⟨.builtin .append,#[.tmp t,x],#[T,T2]⟩,ty,pos,af,none⟩ t dd (.buf E sz<|l++l2):=fun _ dc=>JV dc IU ht hx hT hu KO qO vD
def CG{s:bO}(ht:look Γ t=some s)(hl:s.c6=[])(vD:dd<N)(o:Op)(ho:o= .assign (.tmp t)\/o= .move (.tmp t)):
  Sa P N ops Γ ⟨some dd,o,ty,pos,af,none⟩ t dd s:=by
 intro yM dc w0 H0 a w H dh K Q k;simp only[Region.wanted,if_true];have er:(execOp a.eval ⟨some dd,o,ty,pos,af,none⟩).run P w= .ok (.value<|bh a t) w:=by rcases ho with rfl|rfl<;>rfl
 unfold Oper.wp;rw[er,ve];exact k _ w H (Bw dh (dc _<|aF ht) (Gr w) (fun _ e=>by cases e) vD (by rw[hl];simp) (dh.holds _<|dc _<|aF ht) fun _ h=> .inl h)
def bX{s:bO}(ht:look Γ t=some s)(hl:s.c6=[])(vD:dd<N)(o:Op)(ho:o= .assign (.tmp t)\/o= .move (.tmp t)):
  Step P N ops ⟨some dd,o,ty,pos,af,none⟩ Γ ((dd,s)::del dd (da t Γ)):=by
 intro w0 H0 a w H dh K Q k;simp only[Region.wanted,if_true];have er:(execOp a.eval ⟨some dd,o,ty,pos,af,none⟩).run P w= .ok (.value<|bh a t) w:=by rcases ho with rfl|rfl<;>rfl
 unfold Oper.wp;rw[er,ve];exact k _ w H (Bw dh (aF ht) (Gr w) (fun _ e=>by cases e) vD (by rw[hl];simp) (dh.holds _<|aF ht) fun _ h=> .inl h)
def gk{a b:Nat}(h:Nat.blt a b=true):a<b:=gK h
def Bg(n:Nat)(agg:Bool):Ty where
 n:=n
 agg:=agg
 ok:=fun _ v=>Shape n agg v
 mono:=fun _ h=>h
 shape:=fun h=>h
def aao(cs0:awa arH)(off:Nat):∀(l:att arH) (k:Nat),(off+k+l.length<=cs0.size)->
  (l.zipIdx k).foldl (fun cs (x:arH×Nat)=>cs.setIfInBounds (off+x.2) x.1) cs0=(cs0.toList.take (off+k)++l++cs0.toList.drop (off+k+l.length)).toArray:=by
 intro l
 induction l generalizing cs0 with
 |nil=>intro k _;simp
 |cons v l ih=>
  intro k hk;simp only[List.length_cons] at hk;simp only[List.zipIdx_cons,Lx];rw[ih _ (k+1) (by simp;omega)]
  congr 1
  simp only[LQ,List.length_cons];have hlt:off+k<cs0.toList.length:=by simp;omega
  have h1:List.take (off+(k+1)) (cs0.toList.set (off+k) v)=List.take (off+k) cs0.toList++[v]:=by
   rw[<-rR,List.take_succ_eq_append_getElem (by simpa using hlt)];simp[List.take_set];rw[List.set_eq_of_length_le (by simp;omega)]
  have h2:List.drop (off+(k+1)+l.length) (cs0.toList.set (off+k) v)=List.drop (off+k+(l.length+1)) cs0.toList:=by
   rw[LG (by omega)]
   congr 1;omega
  rw[h1,h2];simp
inductive jv(P:atp)(Γ:Ctx):att (Nat×atq)->att Ty->att Ty->Prop where
 |nil {l:att Ty}:jv P Γ [] l l
 |cons {i:Nat} {x:atq} {τ σ:Ty} {ps:att (Nat×atq)} {l l':att Ty} (hx:Arg Γ x σ) (hi:l[i]? =some τ) (hn:σ.n=τ.n) (r:jv P Γ ps (l.set i σ) l'):jv P Γ ((i,x)::ps) l l'
def rj(l:att Ty):att Nat:=l.map (·.n)
def TH{i:Nat}{σ:Ty}(h:l[i]? =some τ)(hn:σ.n=τ.n):rj (l.set i σ)=rj l:=by
 simp only[rj,Ct];apply EZ;intro j;rw[List.getElem?_set];split
 ·rename_i e;subst e;split
  ·simp[h,hn]
  ·rename_i hlt;have:=(kE.1 h).1;simp at hlt;omega
 ·rfl
def jv.fill{ps:att (Nat×atq)}{l l':att Ty}(h:jv P Γ ps l l'){place:Nat->av8 (Nat×Nat)}(RO:∀i n,(rj l)[i]? =some n->place i=some (((rj l).take i).sum,n))
  {w0:ar P}{H0:HV}{N:Nat}{a:Act}{w:arG}{H:HV}(hs:Sat w0 H0 N Γ a w H):∀{cells:awa arH},vH H l cells.toList->
   ∃kR,Instr.fill place cells (ps.map fun p=>(p.1,a.eval p.2))=some kR/\vH H l' kR.toList:=by
 induction h with
 |nil=>exact fun h=>⟨_,rfl,h⟩
 | @cons i x τ σ ps l l' hx hi hn r ih=>
  intro cells ij;have hv:=hx.ok hs;have hsz:=(σ.shape hv).size;obtain⟨p1,_⟩:=pz ij hi;have Is:=Ch ij hi hn hv;have acy:=RO i τ.n (by simp[rj,hi]);have ajh:((rj l).take i).sum=cc (l.take i):=by simp[rj,cc,List.map_take]
  rw[ajh] at acy;have hlen:cells.toList.length=cells.size:=by simp
  rw[hlen] at p1;have ahS:=aao cells (cc<|l.take i) (a.eval x).cells.toList 0 (by simp;omega);simp only[Al,gF] at ahS;have hnn:(a.eval x).cells.size=τ.n:=by omega
  obtain⟨kR,h1,h2⟩:=ih (by rw[TH hi hn];exact RO) (cells:=(cells.toList.take (cc<|l.take i)++(a.eval x).cells.toList++cells.toList.drop (cc (l.take i)+(a.eval x).cells.size)).toArray) (by rw[hnn];simpa using Is);refine⟨kR,?_,h2⟩;simp only[qg,Instr.fill,acy];rw[if_neg (by simp;omega)];have e:Array.foldl (fun cs (x:arH×Nat)=>cs.setIfInBounds (cc (List.take i l)+x.snd) x.fst) cells (a.eval x).cells.zipIdx=(List.take (cc<|List.take i l) cells.toList++(a.eval x).cells.toList++List.drop (cc (List.take i l)+(a.eval x).cells.size) cells.toList).toArray:=by
   rw[<-ahS,<-Array.foldl_toList,Array.toList_zipIdx]
  rw[<-h1]
  congr 1
def sV(P:atp)(T:ato)(ns:att Nat):Bool:=
 match P.underlying T with
 |some (.struct fs)=>fs.toList.map (·.offset)==(List.range ns.length).map (fun i=>(ns.take i).sum)&&(fs.toList.map (fun f=>(P.info? f.type).map (·.size))==ns.map some)
 |_=>false
def V5{fs:att Field}:∀{ns:att Nat},fs.map (fun f=>(P.info? f.type).map (·.size))=ns.map some->∀w,(fs.mapM fun f=>do pure (f.offset,<-Go.sizeOf f.type):Sem (att<|Nat×Nat)).run P w= .ok ((fs.map (·.offset)).zip ns) w:=by
 induction fs with
 |nil=>intro ns h w;cases ns<;>simp_all
 |cons f fs ih=>
  intro ns h w;cases ns with
  |nil=>simp at h
  |cons n ns=>
   simp only[qg,H4] at h;obtain⟨h1,h2⟩:=h;cases hi:P.info? f.type with
   |none=>rw[hi] at h1;cases h1
   |some i=>
    rw[hi] at h1;simp at h1;have:=ih h2 w;simp only[List.mapM_cons,fE,Go.sizeOf,typeInfo,program,Sem.run,hi,pT,eS,h1];simp only[Go.sizeOf,typeInfo,program] at this;rw[this];simp
def M4(hz:fj P T (ko l))(hT:sV P T (rj l)=true)(hp:jv P Γ ps l l'):bR P Γ ⟨d,.build T ps.toArray,ty,pos,af,g⟩ (.val<|ko l'):=
 bE fun w0 H0 N a w H hs=>by
  obtain⟨z,X1,hzo⟩:=hz.run w;obtain⟨zc,rfl,ai6⟩:=hzo H;unfold sV at hT;split at hT
  ·rename_i fs hu;simp only[bY,yq] at hT;obtain⟨h1,h2⟩:=hT;have hm:=V5 h2 w;have RO:∀i n,(rj l)[i]? =some n->((fs.toList.map (·.offset)).zip<|rj l).toArray[i]? =some (((rj l).take i).sum,n):=by
    intro i n hi;have hlt:=(kE.1 hi).1;simp only[List.getElem?_toArray,h1];rw[RD];refine⟨?_,hi⟩;simp[hlt]
   obtain⟨kR,hf,ij⟩:=hp.fill RO hs ai6;have hmA:(fs.mapM fun f=>do pure (f.offset,<-Go.sizeOf f.type):Sem (awa<|Nat×Nat)).run P w= .ok ((fs.toList.map (·.offset)).zip<|rj l).toArray w:=by
    have e:(fs.mapM fun f=>do pure (f.offset,<-Go.sizeOf f.type):Sem (awa<|Nat×Nat))=List.toArray<$>(fs.toList.mapM fun f=>do pure (f.offset,<-Go.sizeOf f.type)):=by
     rw[<-List.mapM_toArray]
    rw[e,Sem.run_map,hm]
    rfl
   refine⟨.agg kR,?_,⟨kR,rfl,ij⟩,rfl⟩;have e2:(ps.toArray.map fun(i,x)=>(i,a.eval x)).toList=ps.map fun p=>(p.1,a.eval p.2):=by simp
   have hf':Instr.fill (fun i=>((fs.toList.map (·.offset)).zip<|rj l).toArray[i]?) zc (ps.toArray.map fun(i,x)=>(i,a.eval x)).toList=some kR:=by rw[e2];exact hf
   simp only[execOp,Instr.build,fE,X1,eS,aV hu,Value.cells];rw[hmA];simp only[eS];rw[hf'];simp
  ·cases hT
def xl{n:Nat}(hz:fj P T (ko l))(hT:Fw P T n sz=true)(hu:GG sz l)(hp:jv P Γ ps l l'):bR P Γ ⟨d,.build T ps.toArray,ty,pos,af,g⟩ (.val<|ko l'):=
 bE fun w0 H0 N a w H hs=>by
  obtain⟨z,X1,hzo⟩:=hz.run w;obtain⟨zc,rfl,ai6⟩:=hzo H;obtain⟨e,i,hue,hi,hsz⟩:=N8 hT;have RO:∀i n,(rj l)[i]? =some n->(fun i=>some (i*sz,sz)) i=some (((rj l).take i).sum,n):=by
   intro i n hi;have hlt:=(kE.1 hi).1;simp[rj] at hlt;simp only[rj,kD,Option.map_eq_some_iff] at hi;obtain⟨τ,hτ,rfl⟩:=hi;have h1:=hu τ<|AA hτ
   have h2:=iB<|hu.take i
   simp only[cc,List.length_take,fW<|EN hlt] at h2;simp[rj,<-List.map_take,h1,h2]
  obtain⟨kR,hf,ij⟩:=hp.fill RO hs ai6;refine⟨.agg kR,?_,⟨kR,rfl,ij⟩,rfl⟩;have e2:(ps.toArray.map fun(i,x)=>(i,a.eval x)).toList=ps.map fun p=>(p.1,a.eval p.2):=by simp
  have hf':Instr.fill (fun i=>some (i*sz,sz)) zc (ps.toArray.map fun(i,x)=>(i,a.eval x)).toList=some kR:=by rw[e2];exact hf
  have zN:(Go.sizeOf e).run P w= .ok sz w:=by simp[Go.sizeOf,typeInfo,program,Sem.run,hi,hsz]
  simp only[execOp,Instr.build,fE,X1,eS,aV hue,Value.cells,zN];rw[hf'];simp
def L0{z:arH}(hz:τ.ok H z)(n:Nat):vH H (List.replicate n τ) ((Array.range<|n*τ.n).map<|fun i=>z.cells[i%z.cells.size]!).toList:=by
 have hs:=τ.shape hz
 induction n with
 |zero=>simp[vH]
 |succ n ih=>
  have e:((Array.range<|(n+1)*τ.n).map<|fun i=>z.cells[i%z.cells.size]!).toList=((Array.range<|n*τ.n).map<|fun i=>z.cells[i%z.cells.size]!).toList++z.cells.toList:=by
   simp only[Array.toList_map,Array.toList_range];rw[Cs,List.range_add,wh,Lm]
   congr 1
   apply List.ext_getElem
   ·simp[hs.size]
   ·intro i h1 h2;simp at h2;simp only[List.getElem_map,List.getElem_range,Function.comp,Array.getElem_toList];rw[hs.size,wS,Nat.add_mul_mod_self_right,Av (by rw[<-hs.size];exact h2)];rw[pS]
  rw[e,List.replicate_succ'];exact qz ih ⟨z,[],by simp,hz,rfl⟩
def xM(P:atp)(T:ato)(E:ato)(sz:Nat):Bool:=
 match P.underlying T with
 |some (.slice e)=>Nat.beq e E&&(match P.info? e with|some i=>Nat.beq i.size sz|none=>false)
 |_=>false
def FQ{n:Nat}(hz:fj P E τ)(hT:xM P T E sz=true)(hsz:τ.n=sz)(hpos:Nat.blt 0 (n*sz)=true)(hn:Nat.ble (n*sz) 16777216=true)(hp:jv P Γ ps (List.replicate n τ) l')(hl:l'.length=n):
  bR P Γ ⟨d,.buildSlice T n ps.toArray,ty,pos,af,g⟩ (.val<|Fj l'):=
 jB fun w0 H0 N a w H hs=>by
  obtain⟨z,X1,hzo⟩:=hz.run w;have ahJ:=gk hpos;unfold xM at hT;split at hT
  ·rename_i e hu;simp only[bY] at hT;obtain⟨h1,h2⟩:=hT;have h1:=fL h1;subst h1;split at h2
   ·rename_i i hi;have h2:=fL h2;have hz0:=L0 (hzo H) n;rw[hsz] at hz0;have RO:∀i m,(rj<|List.replicate n τ)[i]? =some m->(fun i=>some (i*sz,sz)) i=some (((rj<|List.replicate n τ).take i).sum,m):=by
     intro i m hi;simp only[rj,LF,List.getElem?_replicate] at hi;split at hi
     ·rename_i hlt;simp at hi;subst hi;simp[rj,LF,Ic,hsz,fW<|EN hlt]
     ·cases hi
    obtain⟨kR,hf,ij⟩:=hp.fill RO hs hz0;have e2:(ps.toArray.map fun(i,x)=>(i,a.eval x)).toList=ps.map fun p=>(p.1,a.eval p.2):=by simp
    have zN:(Go.sizeOf e).run P w= .ok sz w:=by simp[Go.sizeOf,typeInfo,program,Sem.run,hi,h2]
    have hle:n*sz<=16777216:=gK hn;have apZ:∀zc:awa arH,((Array.range<|n*sz).map<|fun i=>zc[i%zc.size]!)=((Array.range<|n*sz).map<|fun i=>z.cells[i%z.cells.size]!)->Instr.fill (fun i=>some (i*sz,sz)) ((Array.range<|n*sz).map<|fun i=>zc[i%zc.size]!) (ps.toArray.map fun(i,x)=>(i,a.eval x)).toList=some kR:=by
     intro zc hzc;rw[hzc,e2];exact hf
    have hb:Ex w.heap.size w (w.alloc<| .cells kR e):=Ex.alloc _;refine⟨.slice (some ⟨w.heap.size,0,none⟩) n n,w.alloc<| .cells kR e,grow H w<|w.alloc<| .cells kR e,?_,Ext.grown hs.sub hb,?_,fun b hb=>absurd hb<|bO.free_spec rfl⟩
    ·have h0: ¬n*sz=0:=by omega
     have hff:=apZ z.cells rfl;simp only[execOp,Instr.buildSlice,fE,eS,aV hu,zN];rw[if_neg (by omega)];simp only[fE,pT,eS,if_neg h0,X1];rw[hff];simp[newRow]
    ·refine⟨_,n,by rw[hl],by omega,fun _=>⟨w.heap.size,0,kR,e,(0,0),rfl,?_,?_,?_⟩⟩
     ·simp only[grow,Nat.lt_irrefl,if_false];exact tF w _
     ·have:=rf ij;simp at this;omega
     ·have hlen:=rf ij;rw[wU,eF (by omega)];exact uL (Ext.grown hs.sub hb).le ij
   ·cases h2
  ·cases hT
end
section
variable[D:DR]
variable{P:Program}{w0:ar P}{H0:HV}{N:Nat}{Γ aA:Ctx}{d:Option Tmp}{ty:TypeId}{pos:String}{af:Array Edge}{g:Option (Nat×Bool)}
def ax{Q:Exit->Act->arG->Prop}{y:Code}(h:Goal P w0 H0 N y Q Γ):oU w0 H0 N (fun a w=>y.wpIn (jd w0.rd) 0 P Q a w) Γ:=h
def sc(t:Nat){s:bO}{ts:att Nat}(h:look Γ t=some s)(r:ye Γ ts aA):ye Γ (t::ts) ((t,s)::aA):=ye.cons h r
def ye.conv{t:Nat}{s s':bO}{ts:att Nat}(h:look Γ t=some s)(e:s=s')(r:ye Γ ts aA):ye Γ (t::ts) ((t,s')::aA):=e▸ye.cons h r
end
section
variable[D:DR]
variable{P:Program}{w0:ar P}{H0:HV}{N:Nat}{ops:Array Oper}{Γ aA:Ctx}{d:Option Tmp}{ty:TypeId}{pos:String}{af:Array Edge}{g:Option (Nat×Bool)}
variable{sz:Nat}{l:att Ty}{T E:ato}{x:atq}{t j p:Nat}{σ:Ty}{H:HV}{ρ:Ty}
def mkB(P:atp)(T E sz bytes:Nat):Bool:=
 match P.underlying T with
 |some (.slice e)=>Nat.beq e E&&(match P.info? e with|some i=>Nat.beq i.size sz&&Nat.beq i.bytes bytes&&Nat.blt 0 sz|none=>false)
 |_=>false
def afz{bytes:Nat}{y:atq}{n:Nat}{τ:Ty}(hT:mkB P T E sz bytes=true)(hz:fj P E τ)(hsz:τ.n=sz)(hx:Arg Γ x (TI .i64 n))(hy:Arg Γ y (TI .i64 n))(hn:n<=9223372036854775807)(hb:bytes*n<=140737488355328):
  bR P Γ ⟨d,.makeSlice T x y,ty,pos,af,g⟩ (.buf E sz<|List.replicate n τ):=
 jB fun w0 H0 N a w H hs=>by
  obtain⟨z,X1,hzo⟩:=hz.run w;have e1:a.eval x= .int .i64 n:=hx.ok hs;have e2:a.eval y= .int .i64 n:=hy.ok hs;unfold mkB at hT;split at hT
  ·rename_i e hu;simp only[bY] at hT;obtain⟨h1,h2⟩:=hT;have h1:=fL h1;subst h1;split at h2
   ·rename_i i hi;simp only[bY] at h2;obtain⟨⟨h2,h3⟩,h4⟩:=h2;have h2:=fL h2;have h3:=fL h3;have h4:=gk h4;have hz0:=L0 (hzo H) n;rw[hsz] at hz0;have hw:IntKind.i64.wrap (n:Int)=n:=wrap_i64 (by unfold Bh;omega);have Fu: ¬((bytes:Int)*n>2^48):=by
     have:((bytes*n:Nat):Int)<=140737488355328:=by omega
     simp only[uZ] at this;omega
    have zN:∀w,(Go.sizeOf e).run P w= .ok sz w:=fun w=>by simp[Go.sizeOf,typeInfo,program,Sem.run,hi,h2]
    have hti:∀w,(typeInfo e).run P w= .ok i w:=fun w=>by simp[typeInfo,program,Sem.run,hi]
    have Ke:askRoom ((n:Int).toNat*i.bytes)=pure ():=by
     unfold askRoom roomBytes;rw[if_neg];rw[h3,Int.toNat_natCast,qJ];omega
    have ju:Ex w.heap.size w (w.alloc<| .cells ((Array.range<|n*sz).map<|fun i=>z.cells[i%z.cells.size]!) e):=Ex.alloc _;have sO:(Instr.makeSlice T (.int .i64 n)<| .int .i64 n).run P w= .ok (.slice (some ⟨w.heap.size,0,none⟩) n n) (w.alloc<| .cells ((Array.range<|n*sz).map<|fun i=>z.cells[i%z.cells.size]!) e):=by
     have zB: ¬((n:Int)<0):=by omega
     unfold Instr.makeSlice;simp only[fE,aV hu,eS,asInt,asIntOf,pT,hti,hw,h3,Ke,Int.toNat_natCast,zN];have amx:(decide ((n:Int)<0)||decide ((bytes:Int)*n>2^48))=false:=by simp[zB];omega
     simp only[amx];simp only[Cx,false_or,zB,Int.lt_irrefl,or_self,if_false,fE,pT,eS,zN];by_cases h0:n*sz=0
     ·have Uf:(Array.range 0:awa Nat)= #[]:=rfl;simp[zN,h0,newRow,Uf]
     ·simp[zN,h0,X1,newRow]
    refine⟨_,_,H,by simp only[execOp,e1,e2,fE,sO,eS];rfl,Ext.alloc hs.sub _,⟨((Array.range<|n*sz).map<|fun i=>z.cells[i%z.cells.size]!).toList,⟨by simp,.inr ⟨w.heap.size,n,_,by simp,iR _,tF w _,by simp,?_,by simp,?_⟩⟩,hz0,?_⟩,?_⟩
    ·simp only[maxLen];omega
    ·rw[eF (by simp)]
    ·intro b hb;simp[Value.ownBlock] at hb;subst hb;refine⟨?_,.inl hs.below.size⟩;cases hh:H w.heap.size with
     |none=>rfl
     |some o=>have:=xQ hs.sub hh;omega
    ·intro b hb;simp[bO.owns,Value.ownBlock] at hb;omega
   ·cases h2
  ·cases hT
def BR{B:ar P}{a:Act}{w:arG}{v:arH}(h:(bO.buf E sz l).holds B a w H v)(hne:l≠[]):∃b cap cs xs,v= .slice (some ⟨b,0,none⟩) l.length cap/\w.heap[b]? =some (.cells cs E (0,0))/\l.length<=cap/\cap<=maxLen/\cs.size=cap*sz/\xs.length=l.length*sz/\cs.toList.take (l.length*sz)=xs/\vH H l xs/\H b=none/\B.nX b:=by
 obtain⟨xs,⟨hx,hc⟩,ho,hn⟩:=h;rcases hc with⟨e,hl⟩|⟨g,cap,cur,e,hB,hg,hcap,hm,hcs,ht⟩
 ·exact absurd (pZ hl) hne
 ·subst e;exact⟨g,cap,cur,xs,rfl,hg,hcap,hm,hcs,hx,ht,ho,(hn g rfl).1,(hn g rfl).2⟩
def Q9{s:Nat}{ix:atq}{k:IntKind}{i:Int}(hs:look Γ s=some (.same t))(ht:look Γ t=some (.buf E sz l))(hT:G9 P T sz=true)(hi:Arg Γ ix (TI k i))(h0:0<=i)(h1:i<l.length):
  bR P Γ ⟨d,.indexAddr T (.tmp s) ix,ty,pos,af,g⟩ (.Dd t i.toNat sz):=
 bE fun w0 _ _ a w H dh=>by
  obtain⟨b,cap,cs,xs,e,hb,_⟩:=BR (dh.holds _<|aF ht) (fun e=>by rw[e] at h1;simp at h1;omega);have e2:bh a s=bh a t:=dh.holds _<|aF hs
  have e3:a.eval (.tmp s)= .slice (some ⟨b,0,none⟩) l.length cap:=e2.trans e;have ei:a.eval ix= .int k i:=hi.ok dh;exact⟨.pointer<|some ⟨b,0+i.toNat*sz,none⟩,by simp[execOp,e3,ei,y7 hT b 0 l.length cap h0 h1],⟨b,_,cap,e,by simp⟩,rfl⟩
def Q8(hp:look Γ p=some (.Dd t j sz))(ht:look Γ t=some (.buf E sz l))(hu:GG sz l)(hj:l[j]? =some σ)(hT:fM P T σ.n σ.agg=true):
  bR P Γ ⟨d,.load T<| .tmp p,ty,pos,af,g⟩ (.val σ):=
 bE fun w0 _ _ a w H dh=>by
  have P4:=(kE.1 hj).1;obtain⟨b,cap,cs,xs,e,hb,hcap,_,hcs,hx,htake,ho,_,_⟩:=BR (dh.holds _<|aF ht) (fun e=>by rw[e] at P4;simp at P4);obtain⟨b',aca,WX,e1,e2⟩:=dh.holds _<|aF hp
  simp only at e e1;rw[e] at e1;cases e1;have e3:a.eval (.tmp p)= .pointer (some ⟨b,j*sz,none⟩):=e2;obtain⟨p1,p2⟩:=pz ho hj;have hc:cc (l.take j)=j*sz:=by rw[iB<|hu.take _,List.length_take,fW (by omega)]
  rw[hc] at p1 p2;have Yh:l.length*sz<=cs.size:=by rw[hcs];exact mF _ hcap
  have Gl:List.take σ.n (List.drop (j*sz) cs.toList)=List.take σ.n (List.drop (j*sz) xs):=by
   rw[<-htake,uY,tj]
   congr 1;omega
  refine⟨_,?_,p2,rfl⟩;have hr:=kv (P:=P) hT hb (off:=j*sz) (by omega);rw[Gl] at hr;simp[execOp,e3,Instr.loadAt,Instr.sureAddr,hr]
def SN{α:Type _}{cs y:att α}{o s n:Nat}(hy:y.length=s)(h1:o+s<=n)(h2:n<=cs.length):
  List.take n (cs.take o++y++cs.drop (o+s))=List.take o (cs.take n)++y++List.drop (o+s) (cs.take n):=by
 have e1:(cs.take o++y).length=o+s:=by simp[hy];omega
 rw[Ia,e1,eF (by omega),tj,fW (by omega),uY]
def DA{eI:Ctx}(dc:∀q∈eI,q∈Γ)(hp:look eI p=some (.Dd t j sz))(ht:look eI t=some (.buf E sz l))(hu:GG sz l)(hj:l[j]? =some ρ)(hx:Arg eI x σ)(hn:σ.n=sz)(hT:fM P T σ.n σ.agg=true):
  Step P N ops ⟨none,.store T (.tmp p) x,ty,pos,af,none⟩ Γ ((t,.buf E sz<|l.set j σ)::da t Γ):=by
 intro w0 H0 a w H dh K Q k;simp only[Region.wanted,if_true];have P4:=(kE.1 hj).1;obtain⟨b,cap,cs,xs,e,hb,hcap,hml,hcs,Ir,htake,ho,hH,hB⟩:=BR (dh.holds _ (dc _<|aF ht)) (fun e=>by rw[e] at P4;simp at P4);obtain⟨b',aca,WX,e1,e2⟩:=dh.holds _ (dc _<|aF hp);simp only at e e1;rw[e] at e1;cases e1;have ep:a.eval (.tmp p)= .pointer (some ⟨b,j*sz,none⟩):=e2;have Nt:=hx.ok<|dh.weaken dc
 have pt:=σ.shape Nt;have hρ:ρ.n=sz:=hu ρ<|AA hj
 have hc:cc (l.take j)=j*sz:=by rw[iB<|hu.take _,List.length_take,fW (by omega)]
 obtain⟨p1,_⟩:=pz ho hj;rw[hc,hρ] at p1;have Is:=Ch ho hj (hn.trans hρ.symm) Nt;rw[hc,hρ] at Is;have Yh:l.length*sz<=cs.size:=by rw[hcs];exact mF _ hcap
 have sO:=lP (P:=P) (off:=j*sz) (BL hT) pt.size hb (by rw[hn];omega) pt.cell;rw[hn] at sO;unfold Oper.wp;have er:(execOp a.eval ⟨none,.store T (.tmp p) x,ty,pos,af,none⟩).run P w= .ok .skip (w.setRow b (cs.toList.take (j*sz)++(a.eval x).cells.toList++cs.toList.drop (j*sz+sz)).toArray):=by
  simp[execOp,ep,Instr.storeAt,Instr.sureAddr,sO]
 rw[er,Ao]
 generalize acI:(cs.toList.take (j*sz)++(a.eval x).cells.toList++cs.toList.drop (j*sz+sz)).toArray=zJ
 have hg:CR w (w.setRow b zJ) (some b):=CR.setRow w b _;have hlen:(a.eval x).cells.toList.length=sz:=by rw[gF,pt.size,hn]
 refine k a _ H (lg dh (dc _<|aF ht) hg hB (by simp[bO.owns,e,Value.ownBlock]) ?_ fun c hc=> .inl hc);refine⟨_,⟨?_,.inr ⟨b,cap,zJ,by simpa using e,iR _,EL w b _ _ _ _ hb,by simpa using hcap,hml,?_,rfl⟩⟩,?_,?_⟩
 ·rw[<-acI];simp only[pU,List.length_take,E0,List.length_append,hlen,lr,gF];omega
 ·rw[<-acI,<-hcs];simp only[E0,List.length_append,List.length_take,hlen,lr,gF];omega
 ·have:List.take (l.length*sz) zJ.toList=List.take (j*sz) xs++(a.eval x).cells.toList++List.drop (j*sz+sz) xs:=by
   rw[<-acI,<-htake];exact SN hlen (by omega) (by simp;omega)
  simp only[pU];rw[this];exact Is
 ·intro c hc;simp[e,Value.ownBlock] at hc;subst hc;exact⟨hH,hB⟩
def OJ(hp:look Γ p=some (.Dd t j sz))(ht:look Γ t=some (.buf E sz l))(hu:GG sz l)(hj:l[j]? =some ρ)(hx:Arg Γ x σ)(hn:σ.n=sz)(hT:fM P T σ.n σ.agg=true):
  Step P N ops ⟨none,.store T (.tmp p) x,ty,pos,af,none⟩ Γ ((t,.buf E sz<|l.set j σ)::da t Γ):=DA (fun _ h=>h) hp ht hu hj hx hn hT
def MB(hp:look Γ p=some (.Dd t j sz))(ht:look Γ t=some (.buf E sz l))(hu:GG sz l)(hj:l[j]? =some ρ)(hx:Arg Γ x σ)(hn:σ.n=sz)(hT:fM P T σ.n σ.agg=true):
  O9 P N ops Γ ⟨none,.store T (.tmp p) x,ty,pos,af,none⟩ t (.buf E sz<|l.set j σ):=fun _ dc=>DA dc hp ht hu hj hx hn hT
def FR(hu:GG sz l):∀{cs:att arH},vH H l cs->∀(lo hi:Nat),vH H ((l.take hi).drop lo) ((cs.take<|hi*sz).drop<|lo*sz):=by
 induction l with
 |nil=>intro cs h lo hi;have:cs=[]:=h;subst this;simp[vH]
 |cons τ l ih=>
  rintro cs ⟨v,rest,e,hv,hr⟩ lo hi;subst e;have h1:τ.n=sz:=hu τ (by simp);have hvs:v.cells.toList.length=sz:=by rw[gF,(τ.shape hv).size,h1]
  cases hi with
  |zero=>simp[vH]
  |succ hi=>
   have ht:List.take ((hi+1)*sz) (v.cells.toList++rest)=v.cells.toList++List.take (hi*sz) rest:=by
    rw[Cs,wS,Ia,hvs,eF (by omega)]
    congr 2;omega
   rw[ht];cases lo with
   |zero=>
    have:=ih (fun x hx=>hu x (by simp[hx])) hr 0 hi;simp only[wU,Ll,LH] at this⊢;exact⟨v,_,rfl,hv,this⟩
   |succ lo=>
    have hd:List.drop ((lo+1)*sz) (v.cells.toList++List.take (hi*sz) rest)=List.drop (lo*sz) (List.take (hi*sz) rest):=by
     rw[Cs,wS,vh,hvs,xJ (by omega)];simp
    rw[hd];exact ih (fun x hx=>hu x (by simp[hx])) hr lo hi
def aim(hu:GG sz l){ad:av8 Addr}{len cap:Nat}(h:(Fj l).ok H (.slice ad len cap)){lo hi m:Nat}(hlh:lo<=hi)(hhl:hi<=l.length)(nc:Nat)(hnc:hi-lo<=nc)(hm:m=lo->lo=hi):
  (Fj<|(l.take hi).drop lo).ok H (.slice (if m=lo then ad else ad.map (·.add (lo*sz))) (hi-lo) nc):=by
 obtain⟨ad',WX,e,hcap,hx⟩:=h;cases e;have hlen:((l.take hi).drop lo).length=hi-lo:=by simp;omega
 refine⟨if m=lo then ad else ad.map (·.add (lo*sz)),nc,by rw[hlen],by omega,fun hne=>?_⟩;have hne':l≠[]:=by intro e;subst e;simp at hne
 have hlt:lo<hi:=by
  apply eK;intro Um;exact hne (pZ (by omega))
 obtain⟨b,off,cs,E,fr,e1,hb,hs,ho⟩:=hx hne';subst e1;have hml: ¬m=lo:=fun e=>by have:=hm e;omega
 have hlc:cc l=l.length*sz:=iB hu;have dc:(GG sz<|(l.take hi).drop lo):=fun x hx=>hu x<|zx<|yx hx
 have hcn:cc ((l.take hi).drop lo)=(hi-lo)*sz:=by rw[iB dc,hlen]
 have hmul:hi*sz<=l.length*sz:=mF _ hhl;have asK:(hi-lo)*sz+lo*sz=hi*sz:=by rw[<-pb];congr 1;omega
 refine⟨b,off+lo*sz,cs,E,fr,by simp[hml,addr_add],hb,by omega,?_⟩;have:=FR hu ho lo hi;rw[hcn];have e2:List.take ((hi-lo)*sz) (List.drop (off+lo*sz) cs.toList)=List.drop (lo*sz) (List.take (hi*sz)<|List.take (cc l)<|List.drop off cs.toList):=by
  rw[tj,fW (by omega),uY,iS]
  congr 1;omega
 rw[e2];exact this
def abK{lo hi:av8 atq}{i:Nat}(hT:G9 P T sz=true)(hx:Arg Γ x (Fj l))(hu:GG sz l)
 (FX:(lo=none/\i=0)\/∃y k,lo=some y/\Arg Γ y (TI k i))(Ul:(hi=none/\j=l.length)\/∃y k,hi=some y/\Arg Γ y (TI k j))(Vh:i<=j)(P4:j<=l.length):
  bR P Γ ⟨d,.slice T x lo hi none,ty,pos,af,g⟩ (.val<|Fj<|(l.take j).drop i):=
 bE fun w0 _ _ a w H hs=>by
  have hxo:=hx.ok hs;have aoZ:=hxo;obtain⟨ad,cap,e,hcap,hxx⟩:=aoZ;rw[e] at hxo;obtain⟨el,ii,hue,hii,hsz⟩:=QS hT;have zN:∀w,(Go.sizeOf el).run P w= .ok sz w:=fun w=>by simp[Go.sizeOf,typeInfo,program,Sem.run,hii,hsz]
  have hbd:(Instr.sliceBounds true l.length cap (lo.map a.eval) (hi.map a.eval) none).run P w= .ok (i,j,cap) w:=by
   have b1:∀(k:IntKind) (code:BoundsCode),(Instr.sliceBound (.int k (j:Int)) cap code).run P w= .ok j w:=fun k code=>by
    have:(j:Int)<=cap:=by omega
    simp[Instr.sliceBound,asIntOf];omega
   have b2:∀(k:IntKind) (code:BoundsCode),(Instr.sliceBound (.int k (i:Int)) j code).run P w= .ok i w:=fun k code=>by
    simp[Instr.sliceBound,asIntOf];omega
   rcases FX with⟨e1,e2⟩|⟨y,k,e1,e2⟩<;>rcases Ul with⟨f1,f2⟩|⟨z,k',f1,f2⟩
   ·subst e1;subst f1;subst e2;subst f2;simp[Instr.sliceBounds]
   ·subst e1;subst f1;subst e2;have ez:a.eval z= .int k' j:=f2.ok hs;simp[Instr.sliceBounds,ez,b1]
   ·subst e1;subst f1;subst f2;have ey:a.eval y= .int k i:=e2.ok hs;simp[Instr.sliceBounds,ey,b2]
   ·subst e1;subst f1;have ey:a.eval y= .int k i:=e2.ok hs;have ez:a.eval z= .int k' j:=f2.ok hs;simp[Instr.sliceBounds,ey,ez,b1,b2]
  refine⟨_,?_,aim hu hxo Vh P4 (m:=cap) (cap-i) (by omega) (fun e=>by omega),rfl⟩;have e3:a.eval x= .slice ad l.length cap:=e;simp[execOp,e3,Instr.sliceAt,aV hue,Instr.slice,hbd,zN]
end
section
variable[D:DR]
variable{P:Program}{N:Nat}{ops:Array Oper}{Γ aA:Ctx}{d:Option Tmp}{ty:TypeId}{pos:String}{af:Array Edge}{g:Option (Nat×Bool)}
variable{T:ato}{α:Type}{x:atq}{f:α->Ty}{l:att α}{sz t:Nat}{n:Int}{y:atq}{T' E:ato}{k:IntKind}{m i r:Int}{H:HV}{w0:ar P}{j p:Nat}{z:α}{bytes:Nat}{v:arH}{off:Nat}{τ:Ty}{ix:atq}{dd:Nat}{T2:ato}{len:Nat}{a:Act}{w:arG}{zP:awa ato}{σ:Ty}{b:Bool}{lo hi:av8 atq}{H0:HV}{k':IntKind}{xs:att atq}{args dU:att Ty}
def xj{o:Oper}{s s':bO}(h:bR P Γ o s)(e:s=s'):bR P Γ o s':=e▸h
@[reducible] def TS(l:att UInt8):Ty:=U7 ⟨l.toArray⟩
@[reducible] def lT{α:Type}(f:α->Ty)(l:att α):att Ty:=l.map f
@[reducible] def TL{α:Type}(f:α->Ty)(l:att α):Ty:=Fj<|lT f l
@[reducible] def aea{α:Type}(f:α->Ty)(l:att α):Ty:=ko<|lT f l
def TN{α:Type}(f:α->Ty)(l:att α):Ty where
 n:=1
 agg:=false
 ok:=fun H v=>(TL f l).ok H v/\(l=[]->v= .slice none 0 0)
 mono:=fun h k=>⟨(TL f l).mono h k.1,k.2⟩
 shape:=fun k=>(TL f l).shape k.1
def bo{α:Type}(l:att α):Int->av8 α
 | .ofNat n=>l[n]?
 | .negSucc _=>none
def iq{α:Type}(l:att α)(lo hi:Int):av8 (att α):=bif decide (0<=lo)&&(decide (lo<=hi)&&decide (hi<=l.length)) then some ((l.take hi.toNat).drop lo.toNat) else none
def yA(n:Int):Bool:=decide (-9223372036854775808<=n)&&decide (n<=9223372036854775807)
def aL(n:Int):av8 Int:=bif yA n then some n else none
def fX{α:Type}(bytes:Nat)(l m:att α):av8 (att α):=bif decide ((l.length+m.length)*bytes<=140737488355328)&&decide (l.length+m.length<=9223372036854775807) then some (l++m) else none
def XK{α:Type}(bytes:Nat)(n:Int)(z:α):av8 (att α):=bif decide (0<=n)&&(decide (n<=9223372036854775807)&&decide (bytes*n<=140737488355328)) then some (List.replicate n.toNat z) else none
def zL(l m:att UInt8):av8 (att UInt8):=bif decide (l.length+m.length<=9223372036854775807) then some (l++m) else none
def wo(m n:Int):av8 Int:=bif decide (n=0) then none else aL (m.tdiv n)
def tC(m n:Int):av8 Int:=bif decide (n=0) then none else some (m.tmod n)
def jY{x:α}(h:bo l i=some x):0<=i/\i<l.length/\l[i.toNat]? =some x:=by
 cases i with
 |ofNat n=>
  have h':l[n]? =some x:=h;have:=(kE.1 h').1;refine⟨Int.natCast_nonneg n,?_,h'⟩;show(n:Int)<_;omega
 |negSucc n=>cases h
def SO{r:att α}{lo hi:Int}(h:iq l lo hi=some r):0<=lo/\lo<=hi/\hi<=l.length/\r=(l.take hi.toNat).drop lo.toNat:=by
 unfold iq at h;cases hc:(decide (0<=lo)&&(decide (lo<=hi)&&decide (hi<=l.length)))
 ·rw[hc] at h;cases h
 ·rw[hc] at h;simp only[bY,vj] at hc;exact⟨hc.1,hc.2.1,hc.2.2,(eQ h).symm⟩
def Z1(h:yA n=true):Bh n:=by simpa[yA,Bh] using h
def Eh(h:aL n=some r):Bh n/\r=n:=by
 unfold aL at h;cases hc:yA n
 ·rw[hc] at h;cases h
 ·rw[hc] at h;exact⟨Z1 hc,(eQ h).symm⟩
def BS{b:Nat}{m r:att α}(h:fX b l m=some r):(l.length+m.length)*b<=140737488355328/\l.length+m.length<=9223372036854775807/\r=l++m:=by
 unfold fX at h;cases hc:(decide ((l.length+m.length)*b<=140737488355328)&&decide (l.length+m.length<=9223372036854775807))
 ·rw[hc] at h;cases h
 ·rw[hc] at h;simp only[bY,vj] at hc;exact⟨hc.1,hc.2,(eQ h).symm⟩
def afH{b:Nat}{r:att α}(h:XK b n z=some r):∃m:Nat,n=m/\m<=9223372036854775807/\b*m<=140737488355328/\r=List.replicate m z:=by
 unfold XK at h;cases hc:(decide (0<=n)&&(decide (n<=9223372036854775807)&&decide (b*n<=140737488355328)))
 ·rw[hc] at h;cases h
 ·rw[hc] at h;simp only[bY,vj] at hc;refine⟨n.toNat,by omega,by omega,?_,(eQ h).symm⟩;have h1:((b*n.toNat:Nat):Int)=b*n:=by rw[uZ,Int.toNat_of_nonneg hc.1]
  have:=hc.2.2;omega
def Zl{l m r:att UInt8}(h:zL l m=some r):l.length+m.length<=9223372036854775807/\r=l++m:=by
 unfold zL at h;cases hc:decide (l.length+m.length<=9223372036854775807)
 ·rw[hc] at h;cases h
 ·rw[hc] at h;exact⟨aZ hc,(eQ h).symm⟩
def adx(h:wo m n=some r):n≠0/\Bh (m.tdiv n)/\r=m.tdiv n:=by
 unfold wo at h;cases hc:decide (n=0)
 ·rw[hc] at h;obtain⟨h1,h2⟩:=Eh h;exact⟨br hc,h1,h2⟩
 ·rw[hc] at h;cases h
def abu(h:tC m n=some r):n≠0/\r=m.tmod n:=by
 unfold tC at h;cases hc:decide (n=0)
 ·rw[hc] at h;exact⟨br hc,(eQ h).symm⟩
 ·rw[hc] at h;cases h
def yD(l:att UInt8):(⟨l.toArray⟩:ByteArray).toList=l:=by
 have key:∀(b:ByteArray) (n:Nat) (i:Nat) (r:att UInt8),b.size-i=n->i<=b.size->ByteArray.toList.loop b i r=r.reverse++b.data.toList.drop i:=by
  intro b n
  induction n with
  |zero=>
   intro i r hn hi;unfold ByteArray.toList.loop;have: ¬i<b.size:=by omega
   rw[if_neg this,List.drop_eq_nil_of_le (by simp only[gF];exact Nat.le_of_not_lt this)];simp
  |succ n ih=>
   intro i r hn hi;unfold ByteArray.toList.loop;have hlt:i<b.size:=by omega
   rw[if_pos hlt,ih (i+1) _ (by omega) (by omega)];have hl:i<b.data.toList.length:=by simpa using hlt
   rw[D7 hl];have:b.get! i=b.data.toList[i]:=by
    cases b with
    |mk a=>
     show a[i]! =_;rw[pS a i hlt];simp
   simp[this]
 unfold ByteArray.toList;rw[key _ _ 0 [] rfl<|iR _];simp
def Arg.s{b:ByteArray}{l:att UInt8}(h:b=⟨l.toArray⟩):Arg Γ (.const<| .string b) (TS l):=⟨fun _=>by subst h;rfl⟩
def Arg.nl:Arg Γ (.const<| .slice none 0 0) (TL f []):=Arg.ahq
def Arg.nn:Arg Γ (.const<| .slice none 0 0) (TN f []):=⟨fun hs=>⟨(Arg.ahq (Γ:=Γ)).ok hs,fun _=>rfl⟩⟩
def ad5:∀H v,(TN f l).ok H v->(TL f l).ok H v:=fun _ _ h=>h.1
def ad7(h:l.isEmpty=false):∀H v,(TL f l).ok H v->(TN f l).ok H v:=fun _ _ k=>⟨k,fun e=>by subst e;cases h⟩
def sY{m n r:att UInt8}(hx:Arg Γ x (TS m))(hy:Arg Γ y (TS n))(h:zL m n=some r):bR P Γ ⟨d,.binOp .add T x y T',ty,pos,af,g⟩ (.val<|TS r):=
 mD hx hy fun H u v hu hv w _=>by
  cases hu;cases hv;obtain⟨h1,h2⟩:=Zl h;subst h2;have hsz: ¬(((⟨m.toArray⟩:ByteArray).size+(⟨n.toArray⟩:ByteArray).size:Nat):Int)>IntKind.i64.max:=by
   have e1:(⟨m.toArray⟩:ByteArray).size=m.length:=by simp[ByteArray.size]
   have e2:(⟨n.toArray⟩:ByteArray).size=n.length:=by simp[ByteArray.size]
   rw[e1,e2];have:IntKind.i64.max=9223372036854775807:=rfl;rw[this];omega
  refine⟨.string<|⟨m.toArray⟩++⟨n.toArray⟩,?_,?_⟩
  ·simp only[eqGuard,binOp,Op.stringOp,if_neg hsz];rfl
  ·show Value.string _=Value.string _
   congr 1
def A3{m n:att UInt8}(hx:Arg Γ x (TS m))(hy:Arg Γ y (TS n)):bR P Γ ⟨d,.binOp .eql T x y T',ty,pos,af,g⟩ (.val<|bj<|m==n):=by
 have:=aiM (P:=P) (d:=d) (ty:=ty) (pos:=pos) (af:=af) (g:=g) (T:=T) (T':=T') hx hy;rwa [yD,yD] at this
def abO{m n:att UInt8}(hx:Arg Γ x (TS m))(hy:Arg Γ y (TS n)):bR P Γ ⟨d,.binOp .neq T x y T',ty,pos,af,g⟩ (.val<|bj<| !(m==n)):=by
 have:=aiH (P:=P) (d:=d) (ty:=ty) (pos:=pos) (af:=af) (g:=g) (T:=T) (T':=T') hx hy;rwa [yD,yD] at this
def fk{s:att UInt8}(hT:isStr P T=true)(hx:Arg Γ x (TS s)):bR P Γ ⟨d,.call ⟨.builtin .len,#[x],#[T]⟩,ty,pos,af,g⟩ (.val<|TI .i64 s.length):=by
 have:=VT (P:=P) (d:=d) (ty:=ty) (pos:=pos) (af:=af) (g:=g) hT hx;have e:(⟨s.toArray⟩:ByteArray).size=s.length:=by simp[ByteArray.size]
 rwa [e] at this
def re{s:att UInt8}{b:UInt8}(hT:isStr P T=true)(hx:Arg Γ x (TS s))(hy:Arg Γ y (TI k i))(h:bo s i=some b):bR P Γ ⟨d,.index T x y,ty,pos,af,g⟩ (.val<|TI .u8 b.toNat):=
 bE fun _ _ _ a w H hs=>by
  have e:a.eval x= .string ⟨s.toArray⟩:=hx.ok hs;have e2:a.eval y= .int k i:=hy.ok hs;obtain⟨h1,h2,h3⟩:=jY h;have hlt:=(kE.1 h3).1;have h4:(⟨s.toArray⟩:ByteArray)[i.toNat]? =some b:=by
   have apv:i.toNat<(⟨s.toArray⟩:ByteArray).size:=by simpa[ByteArray.size] using hlt
   rw[getElem?_pos (⟨s.toArray⟩:ByteArray) i.toNat apv]
   congr 1
   show s.toArray[i.toNat]'_=b;rw[j7 hlt] at h3;simpa using h3
  exact⟨_,by simp[execOp,e,e2,Instr.index,asIntOf,aV<|Gk hT,h1,h4],rfl,rfl⟩
inductive Lo(Γ:Ctx):av8 atq->Int->Int->Prop where
 |none {n:Int}:Lo Γ none n n
 |some {y:atq} {k:IntKind} {i n:Int} (h:Arg Γ y (TI k i)):Lo Γ (some y) n i
def CX{cap:Nat}{j:Int}(FX:Lo Γ lo 0 i)(Ul:Lo Γ hi len j)(h0:0<=i)(Vh:i<=j)(hj:j<=len)(hlc:len<=cap){N:Nat}(hs:Sat w0 H0 N Γ a w H):
  (Instr.sliceBounds b len cap (lo.map a.eval) (hi.map a.eval) none).run P w= .ok (i.toNat,j.toNat,cap) w:=by
 have b1:∀(k:IntKind) (code:BoundsCode),(Instr.sliceBound (.int k j) cap code).run P w= .ok j.toNat w:=fun k code=>by
  have:0<=j/\j<=cap:=by omega
  simp[Instr.sliceBound,asIntOf,this]
 have b2:∀(k:IntKind) (code:BoundsCode),(Instr.sliceBound (.int k i) j.toNat code).run P w= .ok i.toNat w:=fun k code=>by
  have h1:i<=(j.toNat:Int):=by omega
  simp only[Instr.sliceBound,asIntOf,fE,pT,eS,if_pos<|And.intro h0 h1]
 cases FX with
 |none=>
  cases Ul with
  |none=>simp[Instr.sliceBounds]
  |some hz=>have ez:=hz.ok hs;simp only[ad8] at ez;simp[Instr.sliceBounds,ez,b1]
 |some hy=>
  have ey:=hy.ok hs;simp only[ad8] at ey;cases Ul with
  |none=>
   have b2':∀(k:IntKind) (code:BoundsCode),(Instr.sliceBound (.int k i) len code).run P w= .ok i.toNat w:=fun k code=>by simpa using b2 k code
   simp[Instr.sliceBounds,ey,b2']
  |some hz=>have ez:=hz.ok hs;simp only[ad8] at ez;simp[Instr.sliceBounds,ez,ey,b1,b2]
def fQ{s r:att UInt8}{j:Int}(hT:isStr P T=true)(hx:Arg Γ x (TS s))(FX:Lo Γ lo 0 i)(Ul:Lo Γ hi s.length j)(h:iq s i j=some r):
  bR P Γ ⟨d,.slice T x lo hi none,ty,pos,af,g⟩ (.val<|TS r):=
 bE fun _ _ _ a w H hs=>by
  obtain⟨h1,h2,h3,h4⟩:=SO h;subst h4;have e:a.eval x= .string ⟨s.toArray⟩:=hx.ok hs;have esz:(⟨s.toArray⟩:ByteArray).size=s.length:=by simp[ByteArray.size]
  have hbd:=CX (P:=P) (b:=false) FX Ul h1 h2 h3 (bp _) hs;refine⟨.string<|(⟨s.toArray⟩:ByteArray).extract i.toNat j.toNat,?_,?_,rfl⟩
  ·simp[execOp,e,Instr.sliceAt,aV<|Gk hT,Instr.slice,esz,hbd]
  ·show Value.string _=Value.string _
   congr 1
   apply ByteArray.ext;rw[ByteArray.data_extract];simp[List.extract_eq_take_drop,uY]
def mS(hT:mI P T=true)(hx:Arg Γ x (TL f l)):bR P Γ ⟨d,.call ⟨.builtin .len,#[x],#[T]⟩,ty,pos,af,g⟩ (.val<|TI .i64 l.length):=by
 have:=aiL (P:=P) (d:=d) (ty:=ty) (pos:=pos) (af:=af) (g:=g) hT hx;rwa [c7] at this
def sx{s:Nat}(hT:mI P T=true)(hs:look Γ s=some (.same t))(ht:look Γ t=some (.buf E sz<|lT f l)):bR P Γ ⟨d,.call ⟨.builtin .len,#[.tmp s],#[T]⟩,ty,pos,af,g⟩ (.val<|TI .i64 l.length):=by
 have:=Tz (P:=P) (d:=d) (ty:=ty) (pos:=pos) (af:=af) (g:=g) hT hs ht;rwa [c7] at this
def iQ{y:α}(hT:G9 P T sz=true)(hf:∀z,(f z).n=sz)(hx:Arg Γ x (TL f l))(hi:Arg Γ ix (TI k i))(h:bo l i=some y):
  bR P Γ ⟨d,.indexAddr T x ix,ty,pos,af,g⟩ (.val<|Df<|f y):=by
 obtain⟨h1,h2,h3⟩:=jY h;exact TA hx hT (ml hf l) hi h1 (by rw[kD,h3];rfl)
def di{s:Nat}{y:α}(hT:G9 P T sz=true)(hs:look Γ s=some (.same t))(ht:look Γ t=some (.buf E sz<|lT f l))(hi:Arg Γ ix (TI k i))(h:bo l i=some y):
  bR P Γ ⟨d,.indexAddr T (.tmp s) ix,ty,pos,af,g⟩ (.Dd t i.toNat sz):=by
 obtain⟨h1,h2,h3⟩:=jY h;exact Q9 hs ht hT hi h1 (by rw[c7];exact h2)
def lY{y:α}(hf:∀z,(f z).n=sz)(hp:look Γ p=some (.Dd t j sz))(ht:look Γ t=some (.buf E sz<|lT f l))(h:l[j]? =some y)(hT:fM P T (f y).n (f y).agg=true):
  bR P Γ ⟨d,.load T<| .tmp p,ty,pos,af,g⟩ (.val<|f y):=
 Q8 hp ht (ml hf l) (by rw[kD,h];rfl) hT
def rM{y:α}(hf:∀z,(f z).n=sz)(hp:look Γ p=some (.Dd t j sz))(ht:look Γ t=some (.buf E sz<|lT f l))(h:l[j]? =some z)(hx:Arg Γ x (f y))(hT:fM P T (f y).n (f y).agg=true):
  Step P N ops ⟨none,.store T (.tmp p) x,ty,pos,af,none⟩ Γ ((t,.buf E sz<|lT f<|l.set j y)::da t Γ):=by
 have:=OJ (P:=P) (N:=N) (ops:=ops) (ty:=ty) (pos:=pos) (af:=af) hp ht (ml hf l) (by rw[kD,h];rfl) hx (hf y) hT;rwa [show(lT f l).set j (f y)=lT f (l.set j y) from by simp[lT,Ct]] at this
def QM{y:α}(hf:∀z,(f z).n=sz)(hp:look Γ p=some (.Dd t j sz))(ht:look Γ t=some (.buf E sz<|lT f l))(h:l[j]? =some z)(hx:Arg Γ x (f y))(hT:fM P T (f y).n (f y).agg=true):
  O9 P N ops Γ ⟨none,.store T (.tmp p) x,ty,pos,af,none⟩ t (.buf E sz<|lT f<|l.set j y):=by
 have:=MB (P:=P) (N:=N) (ops:=ops) (ty:=ty) (pos:=pos) (af:=af) hp ht (ml hf l) (by rw[kD,h];rfl) hx (hf y) hT;rwa [show(lT f l).set j (f y)=lT f (l.set j y) from by simp[lT,Ct]] at this
def Ng:maxLen=9223372036854775807:=rfl
def eC{m r:att α}{s:Nat}(IU:mI P T2=true)(hT:vA P T E sz bytes=true)(hf:∀z,(f z).n=sz)(hs:look Γ s=some (.same t))(ht:look Γ t=some (.buf E sz<|lT f l))(hx:Arg Γ x (TL f m))(h:fX bytes l m=some r)(vD:dd<N):
  Step P N ops ⟨some dd,.call ⟨.builtin .append,#[.tmp s,x],#[T,T2]⟩,ty,pos,af,none⟩ Γ ((dd,.buf E sz<|lT f r)::del dd (da t Γ)):=by
 obtain⟨h1,h2,h3⟩:=BS h;subst h3;have:=Zc (P:=P) (IU:=IU) (N:=N) (ops:=ops) (ty:=ty) (pos:=pos) (af:=af) hs ht hx hT (ml hf m) (by rw[c7,c7,Ng];exact h2) (by rw[c7,c7];exact h1) vD;rwa [show lT f l++lT f m=lT f (l++m) from by simp[lT]] at this
def G6{m r:att α}(IU:mI P T2=true)(hT:vA P T E sz bytes=true)(hf:∀z,(f z).n=sz)(ht:look Γ t=some (.buf E sz<|lT f l))(hx:Arg Γ x (TL f m))(h:fX bytes l m=some r)(vD:dd<N):
  Step P N ops ⟨some dd,.call ⟨.builtin .append,#[.tmp t,x],#[T,T2]⟩,ty,pos,af,none⟩ Γ ((dd,.buf E sz<|lT f r)::del dd (da t Γ)):=by
 obtain⟨h1,h2,h3⟩:=BS h;subst h3;have:=Vy (P:=P) (IU:=IU) (N:=N) (ops:=ops) (ty:=ty) (pos:=pos) (af:=af) ht hx hT (ml hf m) (by rw[c7,c7,Ng];exact h2) (by rw[c7,c7];exact h1) vD;rwa [show lT f l++lT f m=lT f (l++m) from by simp[lT]] at this
def BN{m r:att α}{s:Nat}(IU:mI P T2=true)(hT:vA P T E sz bytes=true)(hf:∀z,(f z).n=sz)(hs:look Γ s=some (.same t))(ht:look Γ t=some (.buf E sz<|lT f l))(hx:Arg Γ x (TL f m))(h:fX bytes l m=some r)(vD:dd<N):
  Sa P N ops Γ ⟨some dd,.call ⟨.builtin .append,#[.tmp s,x],#[T,T2]⟩,ty,pos,af,none⟩ t dd (.buf E sz<|lT f r):=by
 obtain⟨h1,h2,h3⟩:=BS h;subst h3;have:=aak (P:=P) (IU:=IU) (N:=N) (ops:=ops) (ty:=ty) (pos:=pos) (af:=af) hs ht hx hT (ml hf m) (by rw[c7,c7,Ng];exact h2) (by rw[c7,c7];exact h1) vD;rwa [show lT f l++lT f m=lT f (l++m) from by simp[lT]] at this
def agE{m r:att α}{s:Nat}{hv:v.oneCell'=true}(IU:mI P T2=true)(hT:vA P T E sz bytes=true)(hf:∀z,(f z).n=sz)(hs:look Γ s=some (.val<|TEq v hv))(ht:look Γ t=some (.KG v E sz<|lT f l))(hx:Arg Γ x (TL f m))(h:fX bytes l m=some r)(vD:dd<N):
  Sa P N ops Γ ⟨some dd,.call ⟨.builtin .append,#[.tmp s,x],#[T,T2]⟩,ty,pos,af,none⟩ t dd (.buf E sz<|lT f r):=fun yM dc=>by
 obtain⟨h1,h2,h3⟩:=BS h;subst h3;have:=Vx (P:=P) (IU:=IU) (N:=N) (ops:=ops) (ty:=ty) (pos:=pos) (af:=af) dc hs ht hx hT (ml hf m) (by rw[c7,c7,Ng];exact h2) (by rw[c7,c7];exact h1) vD;rwa [show lT f l++lT f m=lT f (l++m) from by simp[lT]] at this
def Ix{m r:att α}(IU:mI P T2=true)(hT:vA P T E sz bytes=true)(hf:∀z,(f z).n=sz)(ht:look Γ t=some (.buf E sz<|lT f l))(hx:Arg Γ x (TL f m))(h:fX bytes l m=some r)(vD:dd<N):
  Sa P N ops Γ ⟨some dd,.call ⟨.builtin .append,#[.tmp t,x],#[T,T2]⟩,ty,pos,af,none⟩ t dd (.buf E sz<|lT f r):=by
 obtain⟨h1,h2,h3⟩:=BS h;subst h3;have:=Ww (P:=P) (IU:=IU) (N:=N) (ops:=ops) (ty:=ty) (pos:=pos) (af:=af) ht hx hT (ml hf m) (by rw[c7,c7,Ng];exact h2) (by rw[c7,c7];exact h1) vD;rwa [show lT f l++lT f m=lT f (l++m) from by simp[lT]] at this
def bL(f:α->Ty)(E:ato)(sz:Nat):bR P Γ ⟨d,.assign<| .const<| .slice none 0 0,ty,pos,af,g⟩ (.buf E sz<|lT f []):=ZJ
def jW(ht:look Γ t=some (.buf E sz<|lT f l)):ub w0 N Γ ((t,.val<|TL f l)::da t Γ):=afr ht
def Hu(f:α->Ty){r:att α}(hT:mkB P T E sz bytes=true)(hz:fj P E (f z))(hsz:(f z).n=sz)(hx:Arg Γ x (TI .i64 n))(hy:Arg Γ y (TI .i64 n))(h:XK bytes n z=some r):
  bR P Γ ⟨d,.makeSlice T x y,ty,pos,af,g⟩ (.buf E sz<|lT f r):=by
 obtain⟨m,h1,h2,h3,h4⟩:=afH h;subst h1;subst h4;have:=afz (P:=P) (d:=d) (ty:=ty) (pos:=pos) (af:=af) (g:=g) hT hz hsz hx hy h2 h3;rwa [show List.replicate m (f z)=lT f (List.replicate m z) from by simp[lT]] at this
def tP{r:att α}{j:Int}(hT:G9 P T sz=true)(hf:∀z,(f z).n=sz)(hx:Arg Γ x (TL f l))(FX:Lo Γ lo 0 i)(Ul:Lo Γ hi l.length j)(h:iq l i j=some r):
  bR P Γ ⟨d,.slice T x lo hi none,ty,pos,af,g⟩ (.val<|TL f r):=by
 obtain⟨h1,h2,h3,h4⟩:=SO h;subst h4;have hi':((i.toNat:Nat):Int)=i:=by omega
 have hj':((j.toNat:Nat):Int)=j:=by omega
 have:=abK (P:=P) (d:=d) (ty:=ty) (pos:=pos) (af:=af) (g:=g) (lo:=lo) (hi:=hi) (i:=i.toNat) (j:=j.toNat) hT hx (ml hf l)
  (by cases FX with
   |none=>exact .inl ⟨rfl,rfl⟩
   |some hy=>exact .inr ⟨_,_,rfl,by rw[hi'];exact hy⟩)
  (by cases Ul with
   |none=>exact .inl ⟨rfl,by rw[c7];omega⟩
   |some hy=>exact .inr ⟨_,_,rfl,by rw[hj'];exact hy⟩)
  (by omega) (by rw[c7];omega)
 rwa [show((lT f l).take j.toNat).drop i.toNat=lT f ((l.take j.toNat).drop i.toNat) from by simp[lT,List.map_take,List.map_drop]] at this
def Py(h:mI P T=true)(ad:av8 Addr)(n c:Nat)(w:arG):(Op.equal T (.slice ad n c)<| .slice none 0 0).run P w= .ok ad.isNone w:=by
 obtain⟨e,hu⟩:=E7 h;have key:∀d,(Op.equalIn (d+1) T (.slice ad n c)<| .slice none 0 0).run P w= .ok ad.isNone w:=by
  intro d;unfold Op.equalIn;cases ad<;>simp[aV hu]
 exact key 9999
def ad4(h:(TN f l).ok H v):∃ad n c,v= .slice ad n c/\ad.isNone=l.isEmpty:=by
 obtain⟨⟨ad,cap,e,_,hx⟩,hn⟩:=h;cases l with
 |nil=>exact⟨none,0,0,hn rfl,rfl⟩
 |cons y l=>
  obtain⟨b,off,cs,E,fr,e1,_⟩:=hx (by simp[lT]);exact⟨ad,_,cap,e,by subst e1;rfl⟩
def uJ(hT:mI P T=true)(hx:Arg Γ x (TN f l)):bR P Γ ⟨d,.binOp .eql T x (.const<| .slice none 0 0) T',ty,pos,af,g⟩ (.val<|bj l.isEmpty):=
 bE fun _ _ _ a w H hs=>by
  obtain⟨ad,n,c,e,h⟩:=ad4<|hx.ok hs
  refine⟨.bool ad.isNone,?_,by rw[h];rfl,rfl⟩;have e2:a.eval (.const<| .slice none 0 0)= .slice none 0 0:=rfl;simp[execOp,e,e2,eqGuard,binOp,Py hT]
def aiI(hT:mI P T=true)(hx:Arg Γ x (TN f l)):bR P Γ ⟨d,.binOp .neq T x (.const<| .slice none 0 0) T',ty,pos,af,g⟩ (.val<|bj<| !l.isEmpty):=
 bE fun _ _ _ a w H hs=>by
  obtain⟨ad,n,c,e,h⟩:=ad4<|hx.ok hs
  refine⟨.bool<| !ad.isNone,?_,by rw[h];rfl,rfl⟩;have e2:a.eval (.const<| .slice none 0 0)= .slice none 0 0:=rfl;simp[execOp,e,e2,eqGuard,binOp,Py hT]
def bH(hx:Arg Γ x (TI .i64 m))(hy:Arg Γ y (TI .i64 n))(h:aL (m+n)=some r):bR P Γ ⟨d,.binOp .add T x y T',ty,pos,af,g⟩ (.val<|TI .i64 r):=by
 obtain⟨h1,h2⟩:=Eh h;subst h2;exact afC hx hy h1
def bF(hx:Arg Γ x (TI .i64 m))(hy:Arg Γ y (TI .i64 n))(h:aL (m-n)=some r):bR P Γ ⟨d,.binOp .sub T x y T',ty,pos,af,g⟩ (.val<|TI .i64 r):=by
 obtain⟨h1,h2⟩:=Eh h;subst h2;exact afv hx hy h1
def p9(hx:Arg Γ x (TI .i64 m))(hy:Arg Γ y (TI .i64 n))(h:aL (m*n)=some r):bR P Γ ⟨d,.binOp .mul T x y T',ty,pos,af,g⟩ (.val<|TI .i64 r):=by
 obtain⟨h1,h2⟩:=Eh h;subst h2;exact afy hx hy h1
def Q5(hx:Arg Γ x (TI .i64 n))(h:aL (-n)=some r):bR P Γ ⟨d,.unOp .neg T x,ty,pos,af,g⟩ (.val<|TI .i64 r):=by
 obtain⟨h1,h2⟩:=Eh h;subst h2;exact afx hx h1
def sX(hx:Arg Γ x (TI .i64 m))(hy:Arg Γ y (TI .i64 n))(h:wo m n=some r):bR P Γ ⟨d,.binOp .quo T x y T',ty,pos,af,g⟩ (.val<|TI .i64 r):=by
 obtain⟨h1,h2,h3⟩:=adx h;subst h3;exact afw hx hy h1 h2
def n5(hx:Arg Γ x (TI k m))(hy:Arg Γ y (TI k n))(h:tC m n=some r):bR P Γ ⟨d,.binOp .rem T x y T',ty,pos,af,g⟩ (.val<|TI k r):=by
 obtain⟨h1,h2⟩:=abu h;subst h2;exact aiG hx hy h1
@[reducible] def wr(k:IntKind)(n:Int):Int:=k.wrap n
def WG(k:IntKind)(m n:Int):av8 Int:=bif decide (n=0) then none else some (wr k<|m.tdiv n)
def Q4(hx:Arg Γ x (TI k m))(hy:Arg Γ y (TI k n))(h:WG k m n=some r):bR P Γ ⟨d,.binOp .quo T x y T',ty,pos,af,g⟩ (.val<|TI k r):=by
 unfold WG at h;cases hc:decide (n=0)
 ·rw[hc] at h;have:=(eQ h);subst this;exact abM hx hy<|br hc
 ·rw[hc] at h;cases h
def nV(op:BinOp)(k:IntKind)(x y:Int):Int:=
 let a:=BitVec.ofInt k.bits x
 let b:=BitVec.ofInt k.bits y
 match op with
 | .and=>k.wrap (a&&&b).toNat
 | .or=>k.wrap (a|||b).toNat
 | .xor=>k.wrap (a^^^b).toNat
 | .andNot=>k.wrap (a&&& ~~~b).toNat
 |_=>0
def Rc(hx:Arg Γ x (TI k m))(hy:Arg Γ y (TI k n)):bR P Γ ⟨d,.binOp .and T x y T',ty,pos,af,g⟩ (.val<|TI k<|nV .and k m n):=
 mD hx hy fun H u v hu hv w _=>by
  cases hu;cases hv;exact⟨_,by simp[eqGuard,binOp,Op.intBits];rfl,rfl⟩
def VQ(hx:Arg Γ x (TI k m))(hy:Arg Γ y (TI k n)):bR P Γ ⟨d,.binOp .or T x y T',ty,pos,af,g⟩ (.val<|TI k<|nV .or k m n):=
 mD hx hy fun H u v hu hv w _=>by
  cases hu;cases hv;exact⟨_,by simp[eqGuard,binOp,Op.intBits];rfl,rfl⟩
def Hd(k:IntKind)(x y:Int):av8 Int:=bif decide (y<0) then none else some (k.wrap<|x*2^(min y.toNat k.bits))
def Hb(k:IntKind)(x y:Int):av8 Int:=bif decide (y<0) then none else some (x.fdiv<|2^(min y.toNat k.bits))
def M1(hx:Arg Γ x (TI k m))(hy:Arg Γ y (TI k' n))(h:Hd k m n=some r):bR P Γ ⟨d,.binOp .shl T x y T',ty,pos,af,g⟩ (.val<|TI k r):=
 mD hx hy fun H u v hu hv w _=>by
  cases hu;cases hv;unfold Hd at h;cases hc:decide (n<0)
  ·rw[hc] at h;have:=eQ h;subst this;exact⟨_,by simp only[eqGuard,binOp,Op.shift,if_neg<|br hc];rfl,rfl⟩
  ·rw[hc] at h;cases h
def Gd(hx:Arg Γ x (TI k m))(hy:Arg Γ y (TI k' n))(h:Hb k m n=some r):bR P Γ ⟨d,.binOp .shr T x y T',ty,pos,af,g⟩ (.val<|TI k r):=
 mD hx hy fun H u v hu hv w _=>by
  cases hu;cases hv;unfold Hb at h;cases hc:decide (n<0)
  ·rw[hc] at h;have:=eQ h;subst this;exact⟨_,by simp only[eqGuard,binOp,Op.shift,if_neg<|br hc];rfl,rfl⟩
  ·rw[hc] at h;cases h
def aoR:IntKind->IntKind->Bool:=fun a b=>decide<|a=b
def Uc(P:atp)(T:ato)(k:IntKind):Bool:=match P.underlying T with|some (.int k')=>aoR k k'|_=>false
def PZ(h:Uc P T k=true):P.underlying T=some (.int k):=by
 unfold Uc at h;split at h
 ·rename_i k' hu;rw[hu,aZ h]
 ·cases h
def xk{S:ato}(hS:Uc P S k=true)(hT:Uc P T k'=true)(hx:Arg Γ x (TI k n)):bR P Γ ⟨d,.convert S T x,ty,pos,af,g⟩ (.val<|TI k'<|wr k' n):=
 bE fun _ _ _ a w H hs=>by
  have e:a.eval x= .int k n:=hx.ok hs;exact⟨_,by simp[execOp,e,convert,aV<|PZ hS,aV<|PZ hT,Conv.intToInt],rfl,rfl⟩
def Rb{m n:Bool}(hT:Qi P T=true)(hx:Arg Γ x (bj m))(hy:Arg Γ y (bj n)):bR P Γ ⟨d,.binOp .eql T x y T',ty,pos,af,g⟩ (.val<|bj<|m==n):=aiN hT hx hy
def Q6{m n:Bool}(hT:Qi P T=true)(hx:Arg Γ x (bj m))(hy:Arg Γ y (bj n)):bR P Γ ⟨d,.binOp .neq T x y T',ty,pos,af,g⟩ (.val<|bj<| !(m==n)):=
 mD hx hy fun H u v hu hv w _=>by
  cases hu;cases hv;have hu:P.underlying T=some .bool:=by
   unfold Qi at hT;split at hT
   ·assumption
   ·cases hT
  refine⟨.bool<| !(m==n),?_,rfl⟩;have e:(Op.equal T (.bool m)<| .bool n).run P w= .ok (m==n) w:=run_equalIn_bool w 9999 T m n hu;simp[eqGuard,binOp,e]
def mx_(x y:Int):Int:=bif decide (x<y) then y else x
def mn_(x y:Int):Int:=bif decide (y<x) then y else x
def Ld(hx:Arg Γ x (TI k m))(hy:Arg Γ y (TI k n)):bR P Γ ⟨d,.call ⟨.builtin .max,#[x,y],zP⟩,ty,pos,af,g⟩ (.val<|TI k<|mx_ m n):=
 bE fun _ _ _ a w H hs=>by
  have e:a.eval x= .int k m:=hx.ok hs;have e2:a.eval y= .int k n:=hy.ok hs;refine⟨.int k<|if n>m then n else m,?_,?_,rfl⟩
  ·simp[execOp,resolve,invoke,builtin,e,e2,Builtin.max_,Builtin.max2]
  ·show Value.int k _=Value.int k _;unfold mx_;cases hc:decide (m<n)
   ·rw[if_neg<|br hc];rfl
   ·rw[if_pos<|aZ hc];rfl
def XD(hx:Arg Γ x (TI k m))(hy:Arg Γ y (TI k n)):bR P Γ ⟨d,.call ⟨.builtin .min,#[x,y],zP⟩,ty,pos,af,g⟩ (.val<|TI k<|mn_ m n):=
 bE fun _ _ _ a w H hs=>by
  have e:a.eval x= .int k m:=hx.ok hs;have e2:a.eval y= .int k n:=hy.ok hs;refine⟨.int k<|if n<m then n else m,?_,?_,rfl⟩
  ·simp[execOp,resolve,invoke,builtin,e,e2,Builtin.min_,Builtin.min2]
  ·show Value.int k _=Value.int k _;unfold mn_;cases hc:decide (n<m)
   ·rw[if_neg<|br hc];rfl
   ·rw[if_pos<|aZ hc];rfl
structure Sb(P:atp)(f:FuncId)(args:att Ty)(dU:att Ty):Prop where
 run:∀(w:arG) (H:HV) (vs:att arH),Ce H args vs->∃v w',(callFunc f vs.toArray).run P w= .ok (.value v) w'/\Ex w.heap.size w w'/\xi H dU v
def AZ{f:FuncId}(hf:Sb P f args dU)(ha:aU Γ xs args):
  bR P Γ ⟨d,.call ⟨.value<| .func f,xs.toArray,zP⟩,ty,pos,af,g⟩ (AV dU):=
 jB fun w0 H0 N a w H hs=>by
  obtain⟨v,w',h1,h2,h3⟩:=hf.run w H _<|ha.ok hs
  have e:execOp a.eval ⟨d,.call ⟨.value<| .func f,xs.toArray,zP⟩,ty,pos,af,g⟩=callFunc f (#[]++xs.toArray.map a.eval++ #[]):=rfl;have e2:(#[]++xs.toArray.map a.eval++ #[])=(xs.map a.eval).toArray:=by simp
  refine⟨v,w',H,by rw[e,e2,h1],⟨h2,HV.le.refl _,fun _ _=>rfl,fun r o h=>?_⟩,vT h3,fun b e=>absurd e<|bO.free_spec yH⟩;rw[h2.block r<|xQ hs.sub h];exact hs.sub r o h
def MP{n:Nat}{agg:Bool}(h:fM P T n agg=true){cs:awa arH}(hl:off+n<=cs.size)(w:arG):(part T cs off).run P w= .ok (Jo agg ((cs.toList.drop off).take n).toArray) w:=by
 obtain⟨h1,h2,h3⟩:=T9 h;cases agg
 ·have hn:=h3 rfl;subst hn;have hlt:off<cs.size:=by omega
  simp[part,h1,hlt,Jo]
 ·simp only[part,fE,h1,h2,eS,if_true,pT,Jo]
  congr 2
  apply Array.ext';simp[Array.toList_extract,List.extract_eq_take_drop]
def Wz(P:atp)(T F:ato)(k off:Nat):Bool:=
 match P.underlying T with
 |some (.struct fs)=>match fs[k]? with
  |some f=>Nat.beq f.offset off&&Nat.beq f.type F
  |none=>false
 |_=>false
def Ra{F:ato}{k:Nat}(hT:Wz P T F k off=true)(hF:fM P F σ.n σ.agg=true)(ha:τ.agg=true)(hx:Arg Γ x τ)(hp:ba τ off σ):bR P Γ ⟨d,.field T x k,ty,pos,af,g⟩ (.val σ):=
 bE fun _ _ _ a w H hs=>by
  have hv:=hx.ok hs;obtain⟨p1,p2⟩:=hp _ _ hv;have pt:=τ.shape hv;have e:a.eval x= .agg (a.eval x).cells:=by rw[<-show Jo τ.agg (a.eval x).cells= .agg (a.eval x).cells from by rw[ha];rfl];exact pt.eq
  unfold Wz at hT;split at hT
  ·rename_i fs hu;split at hT
   ·rename_i fd hfd;simp only[bY] at hT;have e1:=fL hT.1;have e2:=fL hT.2;refine⟨_,?_,p2,rfl⟩
    generalize (a.eval x).cells=cs at e p1
    have hr:=MP (P:=P) hF p1 w;simp only[execOp,e,Instr.field,fE,aV hu,eS,hfd,asAgg,pT,e1,e2,hr]
   ·cases hT
  ·cases hT
def Yv(P:atp)(T E:ato)(len sz:Nat):Bool:=
 match P.underlying T with
 |some (.array n e)=>Nat.beq n len&&Nat.beq e E&&(match P.info? e with|some i=>Nat.beq i.size sz|none=>false)
 |_=>false
def ba.arr{i:Nat}{y:α}(hf:∀z,(f z).n=sz)(h:l[i]? =some y):ba (aea f l) (i*sz) (f y):=by
 refine ba.agg (i:=i) (by rw[kD,h];rfl) ?_;have hlt:=(kE.1 h).1;rw[iB<|(ml hf l).take i,List.length_take,c7,fW (by omega)]
def iX.arr{i:Nat}{y:α}(hf:∀z,(f z).n=sz)(h:l[i]? =some z):iX (aea f l) (i*sz) (f y) (aea f<|l.set i y):=by
 have hlt:=(kE.1 h).1;have:=iX.agg (l:=lT f l) (i:=i) (off:=i*sz) (σ:=f y) (ρ:=f z) (by rw[kD,h];rfl) (by rw[hf,hf]) (by rw[iB<|(ml hf l).take i,List.length_take,c7,fW (by omega)]);rwa [show(lT f l).set i (f y)=lT f (l.set i y) from by simp[lT,Ct]] at this
def Hw{y:α}(hT:Yv P T E len sz=true)(hE:fM P E (f y).n (f y).agg=true)(hf:∀z,(f z).n=sz)(hlen:l.length=len)(hx:Arg Γ x (aea f l))(hi:Arg Γ ix (TI k i))(h:bo l i=some y):
  bR P Γ ⟨d,.index T x ix,ty,pos,af,g⟩ (.val<|f y):=
 bE fun _ _ _ a w H hs=>by
  obtain⟨h0,h1,h2⟩:=jY h;have hv:=hx.ok hs;obtain⟨p1,p2⟩:=ba.arr hf h2 _ _ hv;obtain⟨cs,e,_⟩:=hv;have ei:a.eval ix= .int k i:=hi.ok hs;rw[e] at p1 p2;simp only[Value.cells] at p1 p2;unfold Yv at hT;split at hT
  ·rename_i n el hu;simp only[bY] at hT;obtain⟨⟨e1,e2⟩,e3⟩:=hT;have e1:=fL e1;have e2:=fL e2;subst e2;split at e3
   ·rename_i ii hii;have e3:=fL e3;have hr:=MP (P:=P) hE p1 w;have hsz:(Go.sizeOf el).run P w= .ok sz w:=by simp[Go.sizeOf,typeInfo,program,Sem.run,hii,e3]
    have hb:0<=i/\i<(n:Int):=⟨h0,by omega⟩;refine⟨_,?_,p2,rfl⟩;simp only[execOp,e,ei,Instr.index,asIntOf,fE,pT,eS,aV hu,if_pos hb,hsz,hr]
   ·cases e3
  ·cases hT
def DP{y:α}(h:look Γ t=some (.own T'<|aea f l))(hT:Fw P T len sz=true)(hlen:l.length=len)(hi:Arg Γ ix (TI k i))(hy:bo l i=some y):
  bR P Γ ⟨d,.indexAddr T (.tmp t) ix,ty,pos,af,g⟩ (.ptr t<|i.toNat*sz):=by
 obtain⟨h0,h1,_⟩:=jY hy;exact Hv h hT hi h0 (by omega)
def abD{ps:att (Nat×atq)}{l l':att Ty}(hp:jv P Γ ps l l'):rj l'=rj l:=by
 induction hp with
 |nil=>rfl
 |cons hx hi hn r ih=>rw[ih,TH hi hn]
def WY{n:Nat}{ps:att (Nat×atq)}{l':att Ty}(hz:fj P E τ)(hT:xM P T E sz=true)(hsz:τ.n=sz)(hpos:Nat.blt 0 (n*sz)=true)(hn:Nat.ble (n*sz) 16777216=true)(hp:jv P Γ ps (List.replicate n τ) l')(hl:l'.length=n):
  bR P Γ ⟨d,.buildSlice T n ps.toArray,ty,pos,af,g⟩ (.buf E sz l'):=
 jB fun w0 H0 N a w H hs=>by
  obtain⟨z,X1,hzo⟩:=hz.run w;have ahJ:=gk hpos;unfold xM at hT;split at hT
  ·rename_i e hu;simp only[bY] at hT;obtain⟨h1,h2⟩:=hT;have h1:=fL h1;subst h1;split at h2
   ·rename_i i hi;have h2:=fL h2;have hz0:=L0 (hzo H) n;rw[hsz] at hz0;have RO:∀i m,(rj<|List.replicate n τ)[i]? =some m->(fun i=>some (i*sz,sz)) i=some (((rj<|List.replicate n τ).take i).sum,m):=by
     intro i m hi;simp only[rj,LF,List.getElem?_replicate] at hi;split at hi
     ·rename_i hlt;simp at hi;subst hi;simp[rj,LF,Ic,hsz,fW<|EN hlt]
     ·cases hi
    obtain⟨kR,hf,ij⟩:=hp.fill RO hs hz0;have e2:(ps.toArray.map fun(i,x)=>(i,a.eval x)).toList=ps.map fun p=>(p.1,a.eval p.2):=by simp
    have zN:(Go.sizeOf e).run P w= .ok sz w:=by simp[Go.sizeOf,typeInfo,program,Sem.run,hi,h2]
    have hle:n*sz<=16777216:=gK hn;have hff:Instr.fill (fun i=>some (i*sz,sz)) ((Array.range<|n*sz).map<|fun i=>z.cells[i%z.cells.size]!) (ps.toArray.map fun(i,x)=>(i,a.eval x)).toList=some kR:=by
     rw[e2];exact hf
    have hb:Ex w.heap.size w (w.alloc<| .cells kR e):=Ex.alloc _;have al9:=rf ij;have hns:rj l'=rj (List.replicate n τ):=abD hp;have hcl:cc l'=n*sz:=by
     have:cc l'=(rj l').sum:=rfl;rw[this,hns];simp[rj,hsz]
    have hcs:kR.size=n*sz:=by rw[<-hcl,<-al9];simp
    refine⟨.slice (some ⟨w.heap.size,0,none⟩) n n,w.alloc<| .cells kR e,H,?_,Ext.alloc hs.sub _,⟨kR.toList,⟨by rw[hl];simpa using hcs,.inr ⟨w.heap.size,n,kR,by rw[hl],iR _,tF w _,by omega,?_,hcs,?_⟩⟩,ij,?_⟩,?_⟩
    ·have h0: ¬n*sz=0:=by omega
     simp only[execOp,Instr.buildSlice,fE,eS,aV hu,zN];rw[if_neg (by omega)];simp only[fE,pT,eS,if_neg h0,X1];rw[hff];simp[newRow]
    ·rw[Ng];have:n<=n*sz:=by
      rcases r9 sz with h|h
      ·subst h;simp at ahJ
      ·exact Nat.le_mul_of_pos_right n h
     omega
    ·rw[hl,eF (by simp;omega)]
    ·intro b hb;simp[Value.ownBlock] at hb;subst hb;refine⟨?_,.inl hs.below.size⟩;cases hh:H w.heap.size with
     |none=>rfl
     |some o=>have:=xQ hs.sub hh;omega
    ·intro b hb;simp[bO.owns,Value.ownBlock] at hb;omega
   ·cases h2
  ·cases hT
def not_true(h:(!b)=true):b=false:=by cases b<;>simp_all
def bz{y:α}(h:bo l i=some y):l[i.toNat]? =some y:=(jY h).2.2
def Wb{y:α}{n:Nat}(e:l.length=n)(h:bo l i=some y):i<n:=by
 have:=(jY h).2.1;omega
def uc{l:att Ty}(h:τ.n=sz)(r:GG sz l):GG sz (τ::l):=fun x hx=>by
 rcases aY.1 hx with e|hx
 ·rw[e];exact h
 ·exact r x hx
def un:GG sz []:=fun x hx=>by cases hx
def Sat.abt(hs:Sat w0 H0 N Γ a w H){s:bO}(h:s.holds w0 a w H (bh a t))(hb:s.free=true):Sat w0 H0 N ((t,s)::da t Γ) a w H:=by
 refine⟨hs.nd,hs.sz,hs.below,hs.Jm,hs.sub,?_,?_,hs.gl⟩
 ·intro p hp;rcases aY.1 hp with e|hp
  ·subst e;exact h
  ·exact hs.holds p (bG p hp).1
 ·intro p hp q hq hne b hpb;rcases aY.1 hp with e|hp
  ·subst e;exact absurd hpb<|bO.free_spec hb
  ·rcases aY.1 hq with e|hq
   ·subst e;exact bO.free_spec hb
   ·exact hs.sep p (bG p hp).1 q (bG q hq).1 hne b hpb
def kS{s:Nat}(hs:look Γ s=some (.same t))(ht:look Γ t=some (.val τ)):ub w0 N Γ ((s,.val τ)::da s Γ):=fun _ _ _ H h=>by
 have e:=h.holds _<|aF hs
 have k:=h.holds _<|aF ht
 exact⟨H,h.abt (by show τ.ok H _;rw[show _=_ from e];exact k) rfl⟩
def am9{Ey:Ty}(ht:look Γ t=some (.val τ))(hi:∀H v,τ.ok H v->Ey.ok H v):ub w0 N Γ ((t,.val Ey)::da t Γ):=fun _ _ _ H h=>
 ⟨H,h.abt (hi _ _<|h.holds _<|aF ht) rfl⟩
def Jn(ht:look Γ t=some (.val<|TN f l)):ub w0 N Γ ((t,.val<|TL f l)::da t Γ):=am9 ht ad5
def tNL(h:l.isEmpty=false)(ht:look Γ t=some (.val<|TL f l)):ub w0 N Γ ((t,.val<|TN f l)::da t Γ):=am9 ht<|ad7 h
def Arg.c(h:v.oneCell'=true):Arg Γ (.const v) (Bg 1 false):=⟨fun _=>Shape.one h⟩
def zTL:(TL f []).ok H (.slice none 0 0):=⟨none,0,rfl,bp _,fun h=>absurd rfl h⟩
def zTN:(TN f []).ok H (.slice none 0 0):=⟨zTL,fun _=>rfl⟩
def Dk{n:Nat}{agg:Bool}(h:(Nat.beq v.cells.size n&&v.cells.toList.all (fun c=>c.oneCell'))=true)(e:v=Jo agg v.cells):Shape n agg v:=by
 simp only[bY] at h;exact⟨fL h.1,fun c hc=>dI.1 h.2 c hc,e⟩
def B4{α:Type}(i k:Int)(y x:α):α:=bif decide (i=k) then y else x
def iX.adt{a b c y:α}(hf:∀z,(f z).n=sz)(h:bo [a,b,c] i=some z):iX (ko [f a,f b,f c]) (i.toNat*sz) (f y) (ko [f<|B4 i 0 y a,f<|B4 i 1 y b,f<|B4 i 2 y c]):=by
 obtain⟨h0,h1,h2⟩:=jY h;have:=iX.arr (y:=y) hf h2;simp only[List.length_cons,Cu] at h1;have hi:i=0\/i=1\/i=2:=by omega
 rcases hi with e|e|e<;>(subst e;exact this)
def VU{t' o n:Nat}(h:look Γ t=some (.ptr t' o))(hT:Fw P T n sz=true)(hi:Arg Γ ix (TI k i))(h0:0<=i)(h1:i<n):
  bR P Γ ⟨d,.indexAddr T (.tmp t) ix,ty,pos,af,g⟩ (.ptr t'<|o+i.toNat*sz):=kg h hT hi h0 h1
def DB{f:FuncId}(hc:fR P f=true)
 (h:∀(H:HV) (vs:att arH),Ce H args vs->∃Qm xY,Ce H Qm vs/\fN P f Qm (.vs xY)/\∀H' v,xi H' xY v->xi H' dU v):fN P f args (.vs dU):=
 ⟨hc,fun w H vs sub gl ij=>by
  obtain⟨Qm,xY,h1,h2,h3⟩:=h H vs ij;exact(h2.run w H vs sub gl h1).mono fun _ w' ⟨v,e,hb,H',k1,k2,k3⟩=>⟨v,e,hb,H',k1,k2,h3 H' v k3⟩⟩
structure GD{α:Type}[DecidableEq α](P:atp)(T:ato)(f:α->Ty):Prop where
 run:∀(H:HV) (u v:arH) (x y:α),(f x).ok H u->(f y).ok H v->∀w:arG,(Op.equal T u v).run P w= .ok (decide<|x=y) w
 guard:∀(H:HV) (u v:arH) (x y:α),(f x).ok H u->(f y).ok H v->∀(o:BinOp) (p q:atq) (w:arG),(eqGuard o T p q u v).run P w= .ok () w
 agg:∀x,(f x).agg=true
def Jk[DecidableEq α]{m n:α}(h:GD P T f)(hx:Arg Γ x (f m))(hy:Arg Γ y (f n)):bR P Γ ⟨d,.binOp .eql T x y T',ty,pos,af,g⟩ (.val<|bj<|decide<|m=n):=
 mD hx hy fun H u v hu hv w _=>by
  have e1:=h.run H u v m n hu hv w;have e2:=h.guard H u v m n hu hv .eql x y w;refine⟨.bool<|decide<|m=n,?_,rfl⟩;have a1:=((f m).shape hu).eq;have a2:=((f n).shape hv).eq;rw[h.agg] at a1 a2;simp only[Jo] at a1 a2;simp only[fE,e2,eS];rw[a1,a2] at e1⊢;simp[binOp,e1]
def VR[DecidableEq α]{m n:α}(h:GD P T f)(hx:Arg Γ x (f m))(hy:Arg Γ y (f n)):bR P Γ ⟨d,.binOp .neq T x y T',ty,pos,af,g⟩ (.val<|bj<| !decide (m=n)):=
 mD hx hy fun H u v hu hv w _=>by
  have e1:=h.run H u v m n hu hv w;have e2:=h.guard H u v m n hu hv .neq x y w;refine⟨.bool<| !decide (m=n),?_,rfl⟩;have a1:=((f m).shape hu).eq;have a2:=((f n).shape hv).eq;rw[h.agg] at a1 a2;simp only[Jo] at a1 a2;simp only[fE,e2,eS];rw[a1,a2] at e1⊢;simp[binOp,e1]
def aO:att Int->Int
 |[]=>0
 |x::l=>x+18446744073709551616*aO l
def okW(l:att Int):Prop:=∀x∈l,0<=x/\x<18446744073709551616
@[reducible] def a7(x:Int×att Int):Ty:=ko [(TI .i64) x.1,(TN<|TI .u64) x.2]
def rI(r:Int×att Int)(z:Int):Prop:=
 (r.2=[]/\r.1=z/\Bh z)\/(r.2≠[]/\(r.1=1\/r.1= -1)/\okW r.2/\r.2.getLast?≠some 0/\z=r.1*aO r.2/\9223372036854775807<aO r.2)
def nY(z:Int):Ty:=TEx 2 true (fun r=>rI r z) a7 (fun _=>rfl)<|fun _=>rfl
@[reducible] def cd(q:Rat):Ty:=ko [nY q.num,nY q.den]
def wJ{k:Nat}(h:look Γ p=some (.Dd t j sz))(hf:vF P T k off=true):bR P Γ ⟨d,.fieldAddr T (.tmp p) k,ty,pos,af,g⟩ (.bpf t<|j*sz+off):=
 bE fun _ _ _ a w _ hs=>by
  obtain⟨b,len,cap,e1,e2⟩:=hs.holds _<|aF h
  have e':a.eval (.tmp p)= .pointer (some ⟨b,j*sz,none⟩):=e2;exact⟨.pointer<|some ⟨b,j*sz+off,none⟩,by simp[execOp,e',xh hf],⟨b,len,cap,e1,rfl⟩,rfl⟩
def agY{B:ar P}{l:att Ty}{ρ:Ty}(h:(bO.buf E sz l).holds B a w H v)(hu:GG sz l)(hj:l[j]? =some ρ):
  ∃b cap cs,v= .slice (some ⟨b,0,none⟩) l.length cap/\w.heap[b]? =some (.cells cs E (0,0))/\j*sz+sz<=cs.size/\ρ.ok H (Jo ρ.agg ((cs.toList.drop<|j*sz).take ρ.n).toArray):=by
 have P4:=(kE.1 hj).1;obtain⟨b,cap,cs,xs,e,hb,hcap,_,hcs,hx,htake,ho,_,_⟩:=BR h (fun e=>by rw[e] at P4;simp at P4);obtain⟨p1,p2⟩:=pz ho hj;have hρ:=hu ρ<|AA hj
 have hc:cc (l.take j)=j*sz:=by rw[iB<|hu.take _,List.length_take,fW (by omega)]
 rw[hc] at p1 p2;have Yh:l.length*sz<=cs.size:=by rw[hcs];exact mF _ hcap
 have Gl:List.take ρ.n (List.drop (j*sz) cs.toList)=List.take ρ.n (List.drop (j*sz) xs):=by
  rw[<-htake,uY,tj]
  congr 1;omega
 refine⟨b,cap,cs,e,hb,by omega,?_⟩;rw[Gl];exact p2
def DO{y:α}(hf:∀z,(f z).n=sz)(hp:look Γ p=some (.bpf t<|j*sz+off))(ht:look Γ t=some (.buf E sz<|lT f l))(h:l[j]? =some y)(ha:(f y).agg=true)(hq:ba (f y) off σ)(hT:fM P T σ.n σ.agg=true):
  bR P Γ ⟨d,.load T<| .tmp p,ty,pos,af,g⟩ (.val σ):=
 bE fun w0 _ _ a w H dh=>by
  obtain⟨b,cap,cs,e,hb,hsz,ij⟩:=agY (dh.holds _<|aF ht) (ml hf l) (j:=j) (ρ:=f y) (by rw[kD,h];rfl);obtain⟨b',aca,WX,e1,e2⟩:=dh.holds _<|aF hp
  simp only at e e1;rw[e] at e1;cases e1;have e3:a.eval (.tmp p)= .pointer (some ⟨b,j*sz+off,none⟩):=e2;rw[ha] at ij;obtain⟨h1,h2⟩:=hq _ _ ij;simp only[sP] at h1 h2;have hn:=hf y;have hlen:(List.take (f y).n<|List.drop (j*sz) cs.toList).toArray.size=(f y).n:=by simp;omega
  rw[hlen] at h1;refine⟨_,?_,h2,rfl⟩;have hr:=kv (P:=P) hT hb (off:=j*sz+off) (by omega);have Gl:List.take σ.n (List.drop (j*sz+off) cs.toList)=List.take σ.n (List.drop off<|List.take (f y).n<|List.drop (j*sz) cs.toList):=by
   rw[uY,tj,iS]
   congr 1;omega
  rw[Gl] at hr;simp[execOp,e3,Instr.loadAt,Instr.sureAddr,hr]
def ae5{eI:Ctx}(dc:∀q∈eI,q∈Γ){y y':α}(hf:∀z,(f z).n=sz)(hp:look eI p=some (.bpf t<|j*sz+off))(ht:look eI t=some (.buf E sz<|lT f l))(h:l[j]? =some y)(hx:Arg eI x σ)(ha:(f y).agg=true)(hs:iX (f y) off σ (f y'))(hT:fM P T σ.n σ.agg=true):
  Step P N ops ⟨none,.store T (.tmp p) x,ty,pos,af,none⟩ Γ ((t,.buf E sz<|lT f<|l.set j y')::da t Γ):=by
 intro w0 H0 a w H dh K Q k;simp only[Region.wanted,if_true];have hj:(lT f l)[j]? =some (f y):=by rw[kD,h];rfl
 have hu:=ml hf l;have P4:=(kE.1 hj).1;obtain⟨b,cap,cs,xs,e,hb,hcap,hml,hcs,Ir,htake,ho,hH,hB⟩:=BR (dh.holds _<|dc _<|aF ht) (fun e=>by rw[e] at P4;simp at P4);obtain⟨b',aca,WX,e1,e2⟩:=dh.holds _<|dc _<|aF hp
 simp only at e e1;rw[e] at e1;cases e1;have ep:a.eval (.tmp p)= .pointer (some ⟨b,j*sz+off,none⟩):=e2;have Nt:=hx.ok<|dh.weaken dc
 have pt:=σ.shape Nt;have hc:cc ((lT f l).take j)=j*sz:=by rw[iB<|hu.take _,List.length_take,fW<|EN P4]
 obtain⟨p1,p2⟩:=pz ho hj;rw[hc,hf y] at p1;rw[hc,hf y] at p2;have Yh:(lT f l).length*sz<=cs.size:=by rw[hcs];exact mF _ hcap
 generalize Gl:List.take sz (List.drop (j*sz) xs)=S7 at p2
 have X4:S7.length=sz:=by rw[<-Gl];simp;omega
 rw[ha] at p2;obtain⟨s1,x',s2,s3⟩:=hs _ _ _ p2 Nt;simp only[sP,E0,X4] at s1;simp only[sP] at s3;have Is:=Ch ho hj ((hf y').trans (hf y).symm) s2;rw[hc,hf y] at Is;have sO:=lP (P:=P) (off:=j*sz+off) (BL hT) pt.size hb (by omega) pt.cell;unfold Oper.wp;have er:(execOp a.eval ⟨none,.store T (.tmp p) x,ty,pos,af,none⟩).run P w= .ok .skip (w.setRow b (cs.toList.take (j*sz+off)++(a.eval x).cells.toList++cs.toList.drop (j*sz+off+σ.n)).toArray):=by
  simp[execOp,ep,Instr.storeAt,Instr.sureAddr,sO]
 rw[er,Ao]
 generalize acI:(cs.toList.take (j*sz+off)++(a.eval x).cells.toList++cs.toList.drop (j*sz+off+σ.n)).toArray=zJ
 have hg:CR w (w.setRow b zJ) (some b):=CR.setRow w b _;have hlen:(a.eval x).cells.toList.length=σ.n:=by rw[gF,pt.size]
 have ao2:x'.cells.toList=List.take off S7++(a.eval x).cells.toList++List.drop (off+σ.n) S7:=by rw[s3]
 have amw:zJ.toList=cs.toList.take (j*sz+off)++(a.eval x).cells.toList++cs.toList.drop (j*sz+off+σ.n):=by rw[<-acI]
 refine k a _ H (lg dh (dc _<|aF ht) hg hB (by simp[bO.owns,e,Value.ownBlock]) ?_ fun c hc=> .inl hc);have Ye:(lT f<|l.set j y').length=(lT f l).length:=by simp
 have amv:zJ.size=cs.size:=by
  rw[<-gF,amw];simp only[List.length_append,List.length_take,hlen,lr,gF];omega
 refine⟨List.take ((lT f l).length*sz) zJ.toList,⟨?_,.inr ⟨b,cap,zJ,by rw[Ye];simpa using e,iR _,EL w b _ _ _ _ hb,by rw[Ye];exact hcap,hml,by rw[amv,hcs],by rw[Ye]⟩⟩,?_,?_⟩
 ·rw[Ye];show(List.take ((lT f l).length*sz) zJ.toList).length=(lT f l).length*sz;rw[List.length_take,gF (xs:=zJ),amv];exact fW Yh
 ·have al1:List.take ((lT f l).length*sz) zJ.toList=List.take (j*sz) xs++x'.cells.toList++List.drop (j*sz+sz) xs:=by
   have hy:(a.eval x).cells.toList.length=σ.n:=hlen;rw[amw,SN hy (by omega) (by rw[gF];omega),htake,ao2];have t1:List.take (j*sz+off) xs=List.take (j*sz) xs++List.take off S7:=by
    rw[List.take_add,<-Gl,tj,fW (by omega)]
   have t2:List.drop (j*sz+off+σ.n) xs=List.drop (off+σ.n) S7++List.drop (j*sz+sz) xs:=by
    rw[<-Gl,uY,iS];have:List.drop (j*sz+sz) xs=List.drop (sz-(off+σ.n)) (List.drop (j*sz+(off+σ.n)) xs):=by
     rw[iS];congr 1;omega
    rw[this,zz]
    congr 1;omega
   rw[t1,t2];simp[nR]
  rw[al1];rw[show lT f (l.set j y')=(lT f l).set j (f y') from by simp[lT,Ct]];exact Is
 ·intro c hc;simp[e,Value.ownBlock] at hc;subst hc;exact⟨hH,hB⟩
def aio{y y':α}(hf:∀z,(f z).n=sz)(hp:look Γ p=some (.bpf t<|j*sz+off))(ht:look Γ t=some (.buf E sz<|lT f l))(h:l[j]? =some y)(hx:Arg Γ x σ)(ha:(f y).agg=true)(hs:iX (f y) off σ (f y'))(hT:fM P T σ.n σ.agg=true):
  Step P N ops ⟨none,.store T (.tmp p) x,ty,pos,af,none⟩ Γ ((t,.buf E sz<|lT f<|l.set j y')::da t Γ):=ae5 (fun _ h=>h) hf hp ht h hx ha hs hT
def abp(hT:xM P T E sz=true)(w:arG):(Instr.buildSlice T 0 #[]).run P w= .ok (.slice (some ⟨w.heap.size,0,none⟩) 0 0) (w.alloc<| .cells #[] E):=by
 unfold xM at hT;split at hT
 ·rename_i e hu;simp only[bY] at hT;obtain⟨h1,h2⟩:=hT;have h1:=fL h1;subst h1;split at h2
  ·rename_i i hi;have h2:=fL h2;have zN:(Go.sizeOf e).run P w= .ok sz w:=by simp[Go.sizeOf,typeInfo,program,Sem.run,hi,h2]
   have Uf:(Array.range 0:awa Nat)= #[]:=rfl;simp only[Instr.buildSlice,fE,eS,aV hu,zN,Ll];rw[if_neg (by omega)];simp[newRow,Instr.fill,Uf]
  ·cases h2
 ·cases hT
def N0(f:α->Ty)(hT:xM P T E sz=true):bR P Γ ⟨d,.buildSlice T 0 #[],ty,pos,af,g⟩ (.buf E sz<|lT f []):=
 jB fun w0 H0 N a w H hs=>by
  refine⟨.slice (some ⟨w.heap.size,0,none⟩) 0 0,w.alloc<| .cells #[] E,H,by simp only[execOp,fE,Array.map_empty,abp hT];rfl,Ext.alloc hs.sub _,⟨[],⟨by simp,.inr ⟨w.heap.size,0,#[],rfl,iR _,tF w _,bp _,by rw[Ng];omega,by simp,by simp⟩⟩,rfl,?_⟩,?_⟩
  ·intro b hb;simp[Value.ownBlock] at hb;subst hb;refine⟨?_,.inl hs.below.size⟩;cases hh:H w.heap.size with
   |none=>rfl
   |some o=>have:=xQ hs.sub hh;omega
  ·intro b hb;simp[bO.owns,Value.ownBlock] at hb;omega
def ZI{T:Nat}{l:att Ty}(hT:Fw P T len sz=true)(hu:GG sz l)(hl:l.length=len)(hx:Arg Γ x (Df<|ko l)):bR P Γ ⟨d,.slice T x none none none,ty,pos,af,g⟩ (.val<|Fj l):=
 bE fun w0 _ _ a w H hs=>by
  obtain⟨b,off,cs,E,fr,e,hb,hsz,ij⟩:=hx.ok hs;obtain⟨el,i,hu2,hi,h2⟩:=N8 hT;have zN:∀w,(Go.sizeOf el).run P w= .ok sz w:=fun w=>by simp[Go.sizeOf,typeInfo,program,Sem.run,hi,h2]
  refine⟨.slice (some<|if len=0 then⟨b,off,none⟩ else(⟨b,off,none⟩:Addr).add (0*sz)) len len,?_,?_,rfl⟩
  ·simp[execOp,e,Instr.sliceAt,aV hu2,Instr.sureAddr,Instr.sliceBounds,zN]
  ·obtain⟨cs2,e2,ho⟩:=ij;have ajw:cs2=(List.take (ko l).n<|List.drop off cs.toList).toArray:=by
    have:(ko l).agg=true:=rfl;rw[this] at e2;simp only[Jo] at e2;exact(Value.agg.inj e2).symm
   refine⟨_,len,by rw[hl],by omega,fun hne=>⟨b,off,cs,E,fr,?_,hb,hsz,?_⟩⟩
   ·simp[addr_add]
   ·rw[ajw] at ho;exact ho
def Flat(τ:Ty):Prop:=∀H H' v,τ.ok H v->τ.ok H' v
def Flat.int:Flat (TI k n):=fun _ _ _ h=>h
def Flat.bool:Flat (bj b):=fun _ _ _ h=>h
inductive xy(Γ:Ctx):att atq->att Ty->Prop where
 |nil:xy Γ [] []
 |cons {x:atq} {τ:Ty} {xs:att atq} {l:att Ty} (h:Arg Γ x τ) (r:xy Γ xs l):xy Γ (x::xs) (τ::l)
 |buf {t:Nat} {E:ato} {sz:Nat} {bl:att Ty} {xs:att atq} {l:att Ty} (h:look Γ t=some (.buf E sz bl)) (r:xy Γ xs l):xy Γ (.tmp t::xs) (Fj bl::l)
 |same {s t:Nat} {E:ato} {sz:Nat} {bl:att Ty} {xs:att atq} {l:att Ty} (hs:look Γ s=some (.same t)) (h:look Γ t=some (.buf E sz bl)) (r:xy Γ xs l):xy Γ (.tmp s::xs) (Fj bl::l)
def full(w:arG):HV:=fun r=>w.heap[r]?
def xy.ok{xs:att atq}{l:att Ty}(h:xy Γ xs l){w0:ar P}{H0:HV}{N:Nat}{a:Act}{w:arG}{H:HV}(hs:Sat w0 H0 N Γ a w H):Ce (full w) l (xs.map a.eval):=by
 have hle:HV.le H (full w):=hs.sub
 induction h with
 |nil=>rfl
 |cons h _ ih=>exact⟨_,_,rfl,Ty.mono _ hle<|h.ok hs,ih⟩
 |buf h _ ih=>exact⟨_,_,rfl,AK (hs.holds _<|aF h) hle<|fun b _ _ o ho=>ho,ih⟩
 | @same s t E sz bl xs l hsm h _ ih=>
  refine⟨_,_,rfl,?_,ih⟩;have e:bh a s=bh a t:=hs.holds _<|aF hsm
  show(Fj bl).ok _ (bh a s);rw[e];exact AK (hs.holds _<|aF h) hle<|fun b _ _ o ho=>ho
def TD{H H':HV}:∀{l:att Ty} {vs:att arH},(∀τ∈l,Flat τ)->Ce H l vs->Ce H' l vs
 |[],_,_,e=>e
 |τ::_,_,hf,⟨v,rest,e,hv,hr⟩=>⟨v,rest,e,hf τ (by simp) _ _ _ hv,TD (fun x hx=>hf x (by simp[hx])) hr⟩
def VJ{H':HV}{l:att Ty}(hf:∀τ∈l,Flat τ)(h:xi H l v):xi H' l v:=by
 match l,h with
 |[],h=>exact h
 |[τ],h=>exact hf τ (by simp) _ _ _ h
 |τ::Ey::l,⟨vs,e,h⟩=>exact⟨vs,e,TD hf h⟩
def PL{f:FuncId}(hf:fN P f args (.vs dU))(ha:xy Γ xs args)(hfl:∀τ∈dU,Flat τ):
  bR P Γ ⟨d,.call ⟨.value<| .func f,xs.toArray,zP⟩,ty,pos,af,g⟩ (AV dU):=by
 intro w0 H0 N a w H hs K Q k;unfold Oper.wp;have e:execOp a.eval ⟨d,.call ⟨.value<| .func f,xs.toArray,zP⟩,ty,pos,af,g⟩=callFunc f (#[]++xs.toArray.map a.eval++ #[]):=rfl;rw[e,ke hf.can,EX];have e2:(#[]++xs.toArray.map a.eval++ #[])=(xs.map a.eval).toArray:=by simp
 rw[e2];refine(hf.run w (full w) _ (fun _ _ h=>h) (hs.gl.mono hs.sub)<|ha.ok hs).mono ?_;rintro e w' ⟨v,rfl,hb,H',h1,h2,h3⟩;have he:Ext w H w' H:=⟨hb,HV.le.refl _,fun _ _=>rfl,fun r o h=>by rw[hb.block r<|xQ hs.sub h];exact hs.sub r o h⟩;exact k v w' H he (vT<|VJ hfl h3)<|fun b e=>absurd e<|bO.free_spec yH
def flc{l:att Ty}(h:Flat τ)(r:∀x∈l,Flat x):∀x∈τ::l,Flat x:=fun x hx=>by
 rcases aY.1 hx with e|hx
 ·rw[e];exact h
 ·exact r x hx
def fln:∀x∈([]:att Ty),Flat x:=fun x hx=>by cases hx
end
section
variable[D:DR]
variable{P:Program}{w0:ar P}{H0:HV}{N:Nat}{Q:Exit->Act->World->Prop}{Γ aA:Ctx}
def UA{w0:ar P}(hr:w0.rd=none):jd w0.rd=Fence.wide:=by rw[hr];rfl
def agL{c:Code}(hr:w0.rd=none)(h:Goal P w0 H0 N c (Exit.noGoto Q) Γ):Goal P w0 H0 N (.scope c) Q Γ:=fun a w H hs=>by
 have:=h a w H hs;rw[UA hr] at this⊢;exact wpIn_wide.2<|wp_scope_straight<|wpIn_wide.1 this
def agN{l:Nat}(k:oU w0 H0 N (Q .normal) Γ):Goal P w0 H0 N (.label l) Q Γ:=fun a w H hs=>wpIn_label<|k a w H hs
end
section
variable[D:DR]
variable{P:Program}{N:Nat}{ops:Array Oper}{Γ aA:Ctx}{d:Option Tmp}{ty:TypeId}{pos:String}{af:Array Edge}{g:Option (Nat×Bool)}
variable{α β:Type}{A:α->att Ty}{R:β->att Ty}
def U8(P:atp){α β:Type}(A:α->att Ty)(R:β->att Ty)(g:α->av8 β):Ty where
 n:=1
 agg:=false
 ok:=fun H v=>∃f cap qn,v= .func (.func f) #[] cap/\Ce H qn cap.toList/\∀a r,g a=some r-> @fN DR.strict P f (A a++qn) (.vs<|R r)
 mono:=fun h ⟨f,cap,qn,e,k,hf⟩=>⟨f,cap,qn,e,DQ h k,hf⟩
 shape:=fun⟨_,_,_,e,_,_⟩=>by subst e;exact Shape.one rfl
def zf{H:HV}:∀{l:att Ty} {vs:att arH} {l':att Ty} {vs':att arH},Ce H l vs->Ce H l' vs'->Ce H (l++l') (vs++vs')
 |[],_,_,_,e,h=>by subst e;exact h
 |_::_,_,_,_,⟨v,rest,e,hv,hr⟩,h=>by subst e;exact⟨v,_,rfl,hv,zf hr h⟩
def Hx{fn:α->av8 β}{t:Nat}{xs:att atq}{zP:awa ato}{x:α}{r:β}(hf:look Γ t=some (.val<|U8 P A R fn))(h:fn x=some r)(ha:aU Γ xs (A x)):
  bR P Γ ⟨d,.call ⟨.value<| .tmp t,xs.toArray,zP⟩,ty,pos,af,g⟩ (AV<|R r):=by
 intro w0 H0 N a w H hs K Q k;obtain⟨f,cap,qn,e,hc,OV⟩:=hs.holds _<|aF hf
 have hf:=(OV x r h).aoe (D:=D);unfold Oper.wp;have e1:a.eval (.tmp t)= .func (.func f) #[] cap:=e;have e0:execOp a.eval ⟨d,.call ⟨.value<| .tmp t,xs.toArray,zP⟩,ty,pos,af,g⟩=callFunc f (#[]++xs.toArray.map a.eval++cap):=by
  simp only[execOp,resolve,e1,Deferred.ofValue,pure_bind]
  rfl
 rw[e0,ke hf.can,EX];have e2:(#[]++xs.toArray.map a.eval++cap)=(xs.map a.eval++cap.toList).toArray:=by simp
 rw[e2];refine(hf.run w H _ hs.sub hs.gl<|zf (ha.ok hs) hc).mono ?_;rintro e w' ⟨v,rfl,hb,H',h1,h2,h3⟩;have he:Ext w H w' H':=⟨hb,fun r o h=>by rw[h1 r<|xQ hs.sub h];exact h,h1,h2⟩;exact k v w' H' he (vT h3)<|fun b e=>absurd e<|bO.free_spec yH
def DN{fn:α->av8 β}{f:FuncId}{xs:att atq}{qn:att Ty}(ha:aU Γ xs qn)(h:∀a r,fn a=some r-> @fN DR.strict P f (A a++qn) (.vs<|R r)):
  bR P Γ ⟨d,.makeFunc (.func f) #[] xs.toArray,ty,pos,af,g⟩ (.val<|U8 P A R fn):=
 bE fun _ _ _ a w H hs=>by
  refine⟨.func (.func f) #[] (xs.map a.eval).toArray,?_,⟨f,_,qn,rfl,by simpa using ha.ok hs,h⟩,rfl⟩;simp[execOp,Instr.makeFunc]
def Arg.fn{α β:Type}{A:α->att Ty}{R:β->att Ty}{fn:α->av8 β}{f:FuncId}(h:∀a r,fn a=some r-> @fN DR.strict P f (A a) (.vs<|R r)):Arg Γ (.func f) (U8 P A R fn):=
 ⟨fun _=>⟨f,#[],[],rfl,rfl,fun a r e=>by simpa using h a r e⟩⟩
structure aha(P:atp)(f:FuncId)(E:ato)(sz:Nat)(bl:att Ty)(args:att Ty)(dU:att Ty):Prop where
 can:fR P f=true
 run:∀(w:arG) (H:HV) (v:arH) (xs:att arH) (vs:att arH),(∀r o,H r=some o->w.heap[r]? =some o)->qU P H->w.ownsRow 0 E sz v bl.length xs->vH H bl xs->(∀b,v.ownBlock=some b->H b=none)->Ce H args vs->
  Calls P f (v::vs).toArray w fun e w'=>∃r,e= .returned r/\CR w w' v.ownBlock/\∃H',HV.le H H'/\(∀b,b<w.heap.size->v.ownBlock≠some b->H' b=H b)/\(∀b o,H' b=some o->w'.heap[b]? =some o)/\xi H' dU r
def abl{w0:ar P}{H0:HV}{a:Act}{w w':arG}{H H':HV}{row:av8 Nat}(hs:Sat w0 H0 N Γ a w H)(hg:CR w w' row)(yB:∀b,row=some b->w0.nX b/\H b=none/\∀l,w.heap[b]? ≠some (.deferred l))(hle:HV.le H H')(hold:∀b,b<w.heap.size->row≠some b->H' b=H b)(dc:∀b o,H' b=some o->w'.heap[b]? =some o)
  (hn:∀p∈aA,p∈Γ/\∀b,p.2.owns w (bh a p.1) b->row≠some b):Sat w0 H0 N aA a w' H':=by
 have mH:∀b,b<w.heap.size->row≠some b->w'.heap[b]? =w.heap[b]? /\H' b=H b:=fun b hb hn=>⟨hg.block b hb<|fun e=>hn e.symm,hold b hb hn⟩
 refine Bx (ds:=a.defers) hs (hs.below.Fs hg<|fun k hk=>(yB k hk).1) hg.drawn ?_ hg.size hle dc ?_ ?_ ?_
 ·intro _ r hr hx;exact hold r (nT hr hs.below.size) (fun e=>by
   rcases(yB r e).1 with h|h
   ·omega
   ·exact hx h)
 ·intro _ b hb FX;exact mH b hb (fun e=>by have:=ar.yl (yB b e).1;omega)
 ·intro p hp;exact⟨(hn p hp).1,fun b hb=>mH b (bO.oq (hs.holds p (hn p hp).1) hb).1<|(hn p hp).2 b hb⟩
 ·exact hs.nd.kept fun D _ h1 h2=>by
   have:=mH D (lt_of_heap h1)<|fun e=>(yB D e).2.2 _ h1
   exact⟨by rw[this.1];exact h1,by rw[this.2];exact h2⟩
end
section
variable[D:DR]
def Oh{α σ ρ:Type}:att α->((σ->av8 ρ)->α->σ->av8 ρ)->σ->(σ->av8 ρ)->av8 ρ
 |[],_,s,K=>K s
 |x::xs,B,s,K=>B (fun s=>Oh xs B s K) x s
structure IG(M:Nat->Prop)(w:arG)(H:HV)(w':arG)(H':HV):Prop where
 size:w.heap.size<=w'.heap.size
 os:w'.os=w.os
 tape:w'.tape=w.tape
 output:w'.output=w.output
 drawn:JQ w w'
 le:HV.le H H'
 mH:∀b,b<w.heap.size-> ¬M b->w'.heap[b]? =w.heap[b]? /\H' b=H b
 sub:∀r o,H' r=some o->w'.heap[r]? =some o
def IF{α σ ρ:Type}(P:atp)(l:Nat)(enc:α->att Ty)(Bd:(σ->av8 ρ)->α->σ->av8 ρ)(r:ρ)(J:σ->Inv->Prop)(Jx:Inv->Prop)(n0:Nat):Prop:=
 ∀(next:σ->av8 ρ) (x:α) (s:σ) (I:Inv) (W:arG) (H:HV) (vs:att arH),Bd next x s=some r->J s I->I.n=n0->I.p W H->(∀r o,H r=some o->W.heap[r]? =some o)->qU P H->Ce H (enc x) vs->
  YieldAt (jd none) 0 P l vs.toArray W fun e W'=>∃H' I',I'.n=n0/\I'.p W' H'/\IG I.M W H W' H'/\(∀b,I'.M b->I.M b\/W.heap.size<=b)/\
   ((e= .returned (.bool true)/\∃s',next s'=some r/\J s' I')\/(e= .returned (.bool false)/\Jx I'))
def Ev(P:atp)(gf:FuncId)(qn:att Ty){α:Type}(enc:α->att Ty)(L:att α):Prop:=
 fR P gf=true/\∀{σ ρ:Type} (Bd:(σ->av8 ρ)->α->σ->av8 ρ) (K:σ->av8 ρ) (s0:σ) (r:ρ),Oh L Bd s0 K=some r->
  ∀(l:Nat) (J:σ->Inv->Prop) (Jx:Inv->Prop) (w:arG) (H:HV) (cvs:att arH) (I0:Inv),(∀r o,H r=some o->w.heap[r]? =some o)->qU P H->Ce H qn cvs->J s0 I0->I0.n=w.heap.size->I0.p w H->
   IF P l enc Bd r J Jx w.heap.size->
   Calls P gf (.func (.yield l) #[] #[]::cvs).toArray w fun e w'=>(∃v,e= .returned v)/\∃H' I',I'.p w' H'/\(∀r o,H' r=some o->w'.heap[r]? =some o)/\((∃s,K s=some r/\J s I')\/Jx I')
def Xd(P:atp){α:Type}(enc:α->att Ty)(o:av8 (att α)):Ty where
 n:=1
 agg:=false
 ok:=fun H v=>∃gf cap qn,v= .func (.func gf) #[] cap/\Ce H qn cap.toList/\∀L,o=some L->Ev P gf qn enc L
 mono:=fun h ⟨gf,cap,qn,e,k,s⟩=>⟨gf,cap,qn,e,DQ h k,s⟩
 shape:=fun⟨_,_,_,e,_⟩=>by subst e;exact Shape.one rfl
end
section
variable[D:DR]
variable{P:Program}{w0:ar P}{H0:HV}{N:Nat}{Q:Exit->Act->World->Prop}{Γ aA:Ctx}
variable{w:arG}{H:HV}{T:att Nat}{l:Nat}{rc:Loop}{σ ρ:Type}{r:ρ}{ts:att Nat}{a:Act}
def Re(N:Nat)(T:att Nat)(Γ:Ctx):Bool:=Γ.all fun p=>Nat.blt p.1 N&&T.contains p.1&&p.2.c6.all (fun t=>T.contains t)&& !p.2.kb
def lG{N:Nat}{Γ:Ctx}(h:Re N T Γ=true){p:Nat×bO}(hp:p∈Γ):p.1<N/\p.1∈T/\(∀t∈p.2.c6,t∈T)/\p.2.kb=false:=by
 have:=dI.1 h p hp;simp only[bY,dI,AB,jl] at this;obtain⟨⟨⟨h1,h2⟩,h3⟩,h4⟩:=this;exact⟨gk h1,h2,h3,h4⟩
def pins(N:Nat)(T:att Nat)(pv:Nat->arH):Ctx:=T.map fun t=>(N+1+t,.Sf t<|pv t)
def params:att Nat->att Ty->Ctx
 |p::ps,τ::τs=>(p,.val τ)::params ps τs
 |_,_=>[]
def busy(rc:Loop):Loop:={rc with state:= .busy}
def aeb(wr:ar P)(Hr:HV)(N l:Nat)(rc:Loop)(T:att Nat)(pv:Nat->arH){σ ρ:Type}(eI:σ->Ctx)(Sc:av8 Ctx)(next:σ->av8 ρ)(r:ρ):Exit->Act->arG->Prop
 | .normal,a,w=>∃s',next s'=some r/\∃H,Sat wr Hr N ((N,.l7 l<|busy rc)::(pins N T pv++eI s')) a w H
 | .ret,a,w=>∃G,Sc=some G/\∃H,Sat wr Hr N ((N,.l7 l<|busy rc)::(pins N T pv++G)) a w H
 |_,_,_=>False
def YM(wr:ar P)(Hr:HV)(N l:Nat)(rc:Loop)(T:att Nat)(pv:Nat->arH){σ ρ:Type}(body:Code)(eI:σ->Ctx)(Sc:av8 Ctx)(next:σ->av8 ρ)(r:ρ):Exit->Act->arG->Prop
 | .normal,a,w=>∃YN H,Sat wr Hr N ((N,.l7 l rc)::YN) a w H/\da N YN=YN/\Goal P wr Hr N body (aeb wr Hr N l rc T pv eI Sc next r) ((N,.l7 l<|busy rc)::YN)
 |_,_,_=>False
def adM{wr:ar P}{Hr:HV}{pv:Nat->arH}{body:Code}{eI:σ->Ctx}{Sc:av8 Ctx}{next:σ->av8 ρ}{YN:Ctx}
 (h:ye Γ ts ((N,.l7 l rc)::YN))(hf:da N YN=YN)(g:Goal P wr Hr N body (aeb wr Hr N l rc T pv eI Sc next r) ((N,.l7 l<|busy rc)::YN)):
  oU wr Hr N (YM wr Hr N l rc T pv body eI Sc next r .normal) Γ:=fun _ _ H hs=>⟨YN,H,hs.weaken h.sub,hf,g⟩
def LX{wr:ar P}{Hr:HV}{pv:Nat->arH}{eI:σ->Ctx}{Sc:av8 Ctx}{next:σ->av8 ρ}{s':σ}(hm:next s'=some r)
 (h:ye Γ ts ((N,.l7 l<|busy rc)::(pins N T pv++eI s'))):oU wr Hr N (aeb wr Hr N l rc T pv eI Sc next r .normal) Γ:=fun _ _ H hs=>⟨s',hm,H,hs.weaken h.sub⟩
def CR.putObj(w:arG)(l:Nat)(o:Obj):CR w (w.putObj l o) (some l):=⟨⟨rfl,rfl,rfl,by simp,fun j _ hj=>Ik (fun e=>hj (by rw[e]))⟩,bp _⟩
def Hg{k:Nat}{rc':Loop}(hs:Sat w0 H0 N Γ a w H)(hk:(k,.l7 l rc)∈Γ):Sat w0 H0 N ((k,.l7 l rc')::da k Γ) a (w.putObj l<| .loop rc') H:=by
 obtain⟨h1,h2,h3⟩:=hs.holds _ hk;exact lg hs hk (CR.putObj w l _) h3 rfl ⟨RC<|lt_of_heap h1,h2,h3⟩ fun c hc=> .inl hc
def Sat.ag6(hs:Sat w0 H0 N Γ a w H):∀{G:Ctx},(∀p∈G,p.2.free=true/\p.2.holds w0 a w H (bh a p.1))->Sat w0 H0 N (G++Γ) a w H:=fun{G} h=>by
 refine⟨hs.nd,hs.sz,hs.below,hs.Jm,hs.sub,?_,?_,hs.gl⟩
 ·intro p hp;rcases bN.1 hp with hp|hp
  ·exact(h p hp).2
  ·exact hs.holds p hp
 ·intro p hp q hq hne b hb ju;rcases bN.1 hp with hp|hp
  ·exact bO.free_spec (h p hp).1 hb
  ·rcases bN.1 hq with hq|hq
   ·exact bO.free_spec (h q hq).1 ju
   ·exact hs.sep p hp q hq hne b hb ju
def ML{w:arG}{H:HV}:∀{ps:att Nat} {τs:att Ty} {vs:att arH} {Γ:Ctx} {a:Act},Ce H τs vs->ps.length=τs.length->(∀p∈ps,p<N/\pj p Γ=true)->ps.Nodup->Sat w0 H0 N Γ a w H->
  ∃G,(∀q∈params ps τs++Γ,q∈G)/\Sat w0 H0 N G {tmps:=(ps.zip vs).foldl (fun t (p,v)=>t.setIfInBounds p v) a.tmps,defers:=a.defers} w H
 |[],[],vs,Γ,a,ho,_,_,_,hs=>by
  have:vs=[]:=ho;subst this;exact⟨Γ,fun q hq=>hq,hs⟩
 |[],_::_,_,_,_,_,hl,_,_,_=>by simp at hl
 |_::_,[],_,_,_,_,hl,_,_,_=>by simp at hl
 |p::ps,τ::τs,_,Γ,a,⟨v,rest,e,hv,hr⟩,hl,hp,hn,hs=>by
  subst e;obtain⟨Wj,P2⟩:=List.nodup_cons.1 hn;have h1:=uD hs (hp p (by simp)).1 (hp p (by simp)).2 (s:= .val τ) (v:=v) (by simp[bO.c6]) hv<|fun b h=>h.elim
  obtain⟨G,hG,hS⟩:=ML (ps:=ps) (τs:=τs) (vs:=rest) (Γ:=(p,.val τ)::Γ) hr (by simpa using hl) (fun q hq=>⟨(hp q (by simp[hq])).1,by
   have:=(hp q (by simp[hq])).2;simp only[pj,ti,bY] at this⊢;refine⟨⟨?_,by simp[bO.c6]⟩,this⟩;simp only[pf,ne_eq];exact fun e=>Wj<|e▸hq⟩) P2 h1
  refine⟨G,fun q hq=>hG q ?_,hS⟩;simp only[params,Ax,aY,bN] at hq⊢;rcases hq with h|h|h
  ·exact .inr<| .inl h
  ·exact .inl h
  ·exact .inr<| .inr h
def Marks.tail{B:ar P}{w:arG}{H:HV}:∀{l m:att Deferred},Marks B w H (l++m)->Marks B w H m
 |[],_,h=>h
 |_::_,_,h=>Marks.tail h.2
def Marks.both{B B':ar P}{w w':arG}{H H':HV}:∀{l:att Deferred},Marks B w H l->Marks B' w' H' l->Marks B w' H' l
 |[],_,_=>trivial
 |_::_,⟨⟨D,e,h1,_,_,h4⟩,hr⟩,⟨⟨D',e',_,g2,g3,_⟩,gr⟩=>by
  rw[e] at e';cases e';exact⟨⟨D,e,h1,g2,g3,h4⟩,hr.both gr⟩
def afp(w0:ar P)(H0:HV)(N:Nat)(Γ:Ctx)(a:Act)(n1:Nat)(M:Nat->Prop)(Bk:∀p∈Γ,p.2.kb=false)(hn:w0.n<=n1)(hD:∀D,({target:= .collected D,args:= #[]}:Deferred)∈a.defers++w0.ds->D<n1):Inv where
 n:=n1
 M:=M
 p:=fun W H=>Sat w0 H0 N Γ a W H/\∀b,M b↔∃p∈Γ,p.2.owns W (bh a p.1) b
 lt:=fun⟨hS,hM⟩ hb=>by
  obtain⟨p,hp,hb⟩:=(hM _).1 hb;exact bO.oq (hS.holds p hp) hb
 step:=fun{w w' H H'} ⟨hS,hM⟩ F=>by
  have hk:∀p∈Γ,∀b,p.2.owns w (bh a p.1) b->w'.heap[b]? =w.heap[b]? /\H' b=H b:=fun p hp b hb=>by
   have h1:=(bO.oq (hS.holds p hp) hb).1;have h2:M b:=(hM b).2 ⟨p,hp,hb⟩;exact⟨F.mH b h1<| .inr h2,F.view b h1<| .inr h2⟩
  refine⟨Bx (ds:=a.defers) hS ?_ F.drawn ?_ F.size F.le F.sub ?_ (fun p hp=>⟨hp,hk p hp⟩) ?_,fun b=>?_⟩
  ·exact⟨F.os.trans hS.below.os,F.tape.trans hS.below.tape,F.output.trans hS.below.output,df hS.below.drawn F.drawn,df hS.below.size F.size,
    fun hv k hk hx=>(F.mH k (nT hk hS.below.size)<| .inl<|nT hk hn).trans<|hS.below.block hv k hk hx⟩
  ·exact fun _ r hr _=>F.view r (nT hr hS.below.size)<| .inl<|nT hr hn
  ·rintro⟨p,hp,hi⟩;rw[Bk p hp] at hi;cases hi
  ·exact hS.nd.kept fun D hm h1 h2=>⟨by rw[F.mH D (lt_of_heap h1)<| .inl<|hD D hm];exact h1,by rw[F.view D (lt_of_heap h1)<| .inl<|hD D hm];exact h2⟩
  ·rw[hM b];have key:∀p∈Γ,∀b,p.2.owns w' (bh a p.1) b↔p.2.owns w (bh a p.1) b:=fun p hp b=>by
    refine(bO.wm (n:=0) (w':=w') (H':=H') (hS.holds p hp) (fun hi=>by rw[Bk p hp] at hi;cases hi) ?_).2 b;exact⟨F.size,F.os,F.tape,F.output,F.drawn,F.le,fun b _ h=>h.elim (fun h=>by omega)<|fun h=>(hk p hp b h).1,fun b _ h=>h.elim (fun h=>by omega)<|fun h=>(hk p hp b h).2,F.sub⟩
   exact⟨fun⟨p,hp,h⟩=>⟨p,hp,(key p hp b).2 h⟩,fun⟨p,hp,h⟩=>⟨p,hp,(key p hp b).1 h⟩⟩
def R1{k:Nat}:∀{Γ:Ctx},(∀p∈Γ,p.1≠k)->da k Γ=Γ
 |[],_=>rfl
 |p::Γ,h=>by
  have h1:Nat.beq p.1 k=false:=by
   cases hb:Nat.beq p.1 k
   ·rfl
   ·exact absurd (fL hb) (h p (by simp))
  simp only[da,h1,a8];rw[R1 fun q hq=>h q (by simp[hq])]
def Sat.defs{ds:att Deferred}(hs:Sat w0 H0 N Γ a w H)(hm:Marks w0 w H (ds++w0.ds)):Sat w0 H0 N Γ {a with defers:=ds} w H:=
 Bx (ds:=ds) hs hs.below (bp _) (fun _ _ _ _=>rfl) (bp _) (HV.le.refl _) hs.sub (fun _ _ _ _=>⟨rfl,rfl⟩) (fun p hp=>⟨hp,fun _ _=>⟨rfl,rfl⟩⟩) hm
def Ta{a3 aD:Act}{W W4:arG}{Hc H3:HV}{M:Nat->Prop}{G G':Ctx}(hS:Sat w0 H0 N G aD W Hc)(hds:w0.ds=[])(hrd:w0.rd=none)
 (hM:∀b,M b->w0.nX b/\Hc b=none)(wr:ar P)(hwr:wr=⟨W,M,some l,false,aD.defers,0,iR _,fun _ _=>iR _⟩)
 (NF:Sat wr Hc N ((N,.l7 l rc)::(pins N T (fun t=>bh aD t)++G')) a3 W4 H3)(hT:Re N T G'=true):
  Sat w0 H0 N ((N,.l7 l rc)::G') aD W4 H3/\IG M W Hc W4 H3/\∀p∈(N,bO.l7 l rc)::G',∀b,p.2.owns W4 (bh aD p.1) b->M b\/W.heap.size<=b:=by
 have hwn:wr.n=W.heap.size:=by rw[hwr];rfl
 have hwX:wr.X=M:=by rw[hwr]
 have hwv:wr.OG=false:=by rw[hwr]
 have ao5:wr.ds=aD.defers:=by rw[hwr]
 have hww:wr.w=W:=by rw[hwr]
 have Sf:∀t∈T,bh a3 t=bh aD t:=fun t ht=>NF.holds (N+1+t,.Sf t<|bh aD t)<|cW _<|pd _<|bT.2 ⟨t,ht,rfl⟩
 have mem:∀p∈(N,bO.l7 l rc)::G',p∈(N,bO.l7 l rc)::(pins N T (fun t=>bh aD t)++G'):=fun p hp=>by
  rcases aY.1 hp with e|hp
  ·subst e;simp
  ·exact cW _<|AD _ hp
 have nX:∀b,wr.nX b->w0.nX b:=fun b hb=>by
  rcases hb with hb|hb
  ·exact .inl<|df hS.below.size<|hwn▸hb
  ·exact(hM b<|hwX▸hb).1
 have hle:HV.le Hc H3:=fun r o h=>by
  have hlt:=xQ hS.sub h;rw[NF.Jm hwv r (by rw[hwn];exact hlt) (fun hx=>by have:=(hM r<|hwX▸hx).2;rw[this] at h;cases h)];exact h
 have mH:∀b,b<W.heap.size-> ¬M b->W4.heap[b]? =W.heap[b]? /\H3 b=Hc b:=fun b hb hn=>by
  have h1:=NF.below.block hwv b (by rw[hwn];exact hb) (by rw[hwX];exact hn);rw[hww] at h1;exact⟨h1,NF.Jm hwv b (by rw[hwn];exact hb) (by rw[hwX];exact hn)⟩
 have hsz:W.heap.size<=W4.heap.size:=by have:=NF.below.size;rw[hwn] at this;exact this
 have hos:W4.os=W.os:=by have:=NF.below.os;rw[hww] at this;exact this
 have hta:W4.tape=W.tape:=by have:=NF.below.tape;rw[hww] at this;exact this
 have hou:W4.output=W.output:=by have:=NF.below.output;rw[hww] at this;exact this
 have Yi:JQ W W4:=by have:=NF.below.drawn;rw[hww] at this;exact this
 have low:∀k,k<w0.n-> ¬w0.X k-> ¬M k:=fun k hk hx hm=>by
  rcases(hM k hm).1 with h|h
  ·omega
  ·exact hx h
 have aii:∀p∈(N,bO.l7 l rc)::G',∀b,p.2.owns W4 (bh aD p.1) b↔p.2.owns W4 (bh a3 p.1) b:=fun p hp b=>by
  rcases aY.1 hp with e|hp
  ·subst e;exact Iff.rfl
  ·rw[Sf _ (lG hT hp).2.1]
 refine⟨⟨?_,hS.sz,?_,?_,NF.sub,?_,?_,NF.gl⟩,⟨hsz,hos,hta,hou,Yi,hle,mH,NF.sub⟩,?_⟩
 ·have h1:=NF.nd.tail;rw[ao5] at h1;have h2:=hS.nd;rw[hds,rW] at h2⊢;exact h2.both h1
 ·exact⟨hos.trans hS.below.os,hta.trans hS.below.tape,hou.trans hS.below.output,df hS.below.drawn Yi,df hS.below.size hsz,
   fun hv k hk hx=>(mH k (nT hk hS.below.size)<|low k hk hx).1.trans<|hS.below.block hv k hk hx⟩
 ·exact fun hv r hr hx=>(mH r (nT hr hS.below.size)<|low r hr hx).2.trans<|hS.Jm hv r hr hx
 ·intro p hp;have h1:=NF.holds p<|mem p hp
  have hi:p.2.kb=false:=by
   rcases aY.1 hp with e|hp
   ·subst e;rfl
   ·exact(lG hT hp).2.2.2
  have h2:=bO.qN (B':=w0) hi h1 fun b hb=>nX b<|bO.sw hi h1 hb
  rcases aY.1 hp with e|hp
  ·subst e;exact h2
  ·obtain⟨_,hk,hl,_⟩:=lG hT hp;rw[<-Sf _ hk];exact bO.pP (fun t ht=>(Sf t<|hl t ht).symm) h2
 ·intro p hp q hq hne b hb ju;exact NF.sep p (mem p hp) q (mem q hq) hne b ((aii p hp b).1 hb)<|(aii q hq b).1 ju
 ·intro p hp b hb;have h1:=NF.holds p<|mem p hp
  have hi:p.2.kb=false:=by
   rcases aY.1 hp with e|hp
   ·subst e;rfl
   ·exact(lG hT hp).2.2.2
  rcases bO.sw hi h1 ((aii p hp b).1 hb) with h|h
  ·exact .inr<|hwn▸h
  ·exact .inl<|hwX▸h
def RU{α:Type}{gt:Tmp}{psl:att Tmp}{assign body:Code}{enc:α->att Ty}{L:att α}{o:av8 (att α)}(T:att Nat)(eI:σ->Ctx)(Sc:av8 Ctx)
 {Bd:(σ->av8 ρ)->α->σ->av8 ρ}{K:σ->av8 ρ}{s0:σ}
 (hm:Oh L Bd s0 K=some r)(ho:o=some L)(hrd:w0.rd=none)(hds:w0.ds=[])(hg:look Γ gt=some (.val<|Xd P enc o))(h0:ye Γ ts (eI s0))
 (hT:∀s,Re N T (eI s)=true)(hTx:∀G,Sc=some G->Re N T G=true)(hps:∀x,(enc x).length=psl.length)(hpN:(psl.all fun p=>Nat.blt p N&& !T.contains p)=true)(Sk:psl.Nodup)
 (round:∀(wr:ar P) (Hr:HV) (l:Nat) (rc:Loop) (pv:Nat->arH) (next:σ->av8 ρ) (x:α) (s:σ),wr.rd=some l->Bd next x s=some r->
 Goal P wr Hr N assign (YM wr Hr N l rc T pv body eI Sc next r) (params psl (enc x)++((N,.l7 l rc)::(pins N T pv++eI s))))
 (kk:∀s,K s=some r->oU w0 H0 N (Q .normal) (eI s))(kx:∀G,Sc=some G->oU w0 H0 N (Q .ret) G):Goal P w0 H0 N (.rangeFunc (.tmp gt) psl.toArray assign body) Q Γ:=by
 intro a w H hs;have hinv:∀s,∀p∈eI s,p.2.kb=false:=fun s p hp=>(lG (hT s) hp).2.2.2
 have ahL:∀s,∀p∈eI s,p.1≠N:=fun s p hp=>Nat.ne_of_lt (lG (hT s) hp).1
 rw[hrd];refine wpIn_rangeFunc ?_;intro fn _;obtain⟨gf,cap,qn,eg,hcap,P0⟩:=hs.holds _<|aF hg
 obtain⟨Wo,amf⟩:=P0 L ho;simp only at eg;obtain⟨zM,RN⟩:∃zM:Loop,zM={state:= .ready,pending:=none,fn,tmps:=a.tmps,params:=psl.toArray,assign,body,defers:=w.heap.size}:=⟨_,rfl⟩;obtain⟨W1,hW1⟩:∃W1,(w.alloc<| .deferred<|some []).alloc (.loop zM)=W1:=⟨_,rfl⟩;obtain⟨aD,haD⟩:∃aD:Act,{a with defers:={target:= .collected w.heap.size,args:= #[]}::a.defers}=aD:=⟨_,rfl⟩;have aud:W1.heap.size=w.heap.size+2:=by rw[<-hW1];simp
 have hL1:W1.heap[w.heap.size+1]? =some (.loop zM):=by
  rw[<-hW1];have:=World.alloc_heap_new (w.alloc<| .deferred<|some []) (.loop zM);rwa [World.size_alloc] at this
 have hK1:W1.heap[w.heap.size]? =some (.deferred<|some []):=by
  rw[<-hW1];exact(Below.heap_alloc _ _ _ (by simp)).trans<|World.alloc_heap_new w _
 have hHn:∀b,w.heap.size<=b->H b=none:=fun b hb=>by
  cases hh:H b with
  |none=>rfl
  |some o=>have:=xQ hs.sub hh;omega
 have he:Ext w H W1 H:=by
  have e1:=Ext.alloc hs.sub (w:=w)<| .deferred<|some []
  have e2:=Ext.alloc e1.sub (w:=w.alloc<| .deferred<|some [])<| .loop zM
  rw[hW1] at e2;refine⟨⟨?_,df e1.below.drawn e2.below.drawn⟩,HV.le.refl _,fun _ _=>rfl,e2.sub⟩;have h1:=e1.below.toBelow;have h2:=e2.below.toBelow;exact h1.trans (h2.mono (by simp))
 have hsD:Sat w0 H0 N ((N,.l7 (w.heap.size+1) zM)::eI s0) aD W1 H:=by
  have hs1:=Hf (hs.weaken h0.sub) he;have hmk:Marks w0 W1 H (aD.defers++w0.ds):=by
   rw[<-haD];refine⟨⟨w.heap.size,rfl,fun _=>hs.below.size,hK1,hHn _<|bp _,?_⟩,hs1.nd⟩;intro e he1 he2;have:∀{l:att Deferred},Marks w0 w H l->e∈l->False:=by
    intro l
    induction l with
    |nil=>intro _ h;cases h
    |cons x l ih=>
     rintro⟨⟨D,ex,_,g2,_,_⟩,gr⟩ h;rcases aY.1 h with h|h
     ·subst h;rw[ex] at he2;have hD:D=w.heap.size:=by injection he2 with h _;injection h
      subst hD;have:=lt_of_heap g2;omega
     ·exact ih gr h
   exact this hs.nd he1
  have Sj:Sat w0 H0 N (eI s0) aD W1 H:=by rw[<-haD] at hmk⊢;exact hs1.defs hmk
  refine⟨Sj.nd,Sj.sz,Sj.below,Sj.Jm,Sj.sub,?_,?_,Sj.gl⟩
  ·intro p hp;rcases aY.1 hp with e|hp
   ·subst e;exact⟨hL1,hHn _ (by omega),.inl (df hs.below.size (by omega))⟩
   ·exact Sj.holds p hp
  ·have key:∀q∈eI s0,¬q.2.owns W1 (bh aD q.1) (w.heap.size+1):=fun q hq hb=>by
    have ju:q.2.owns W1 (bh a q.1) (w.heap.size+1):=by rw[<-haD] at hb;exact hb
    have:=(bO.oq ((hs.weaken h0.sub).holds q hq)<|(bO.Hp he ((hs.weaken h0.sub).holds q hq) _).1 ju).1;omega
   intro p hp q hq hne b hb ju;rcases aY.1 hp with e|hp<;>rcases aY.1 hq with e'|hq
   ·subst e;subst e';exact hne rfl
   ·subst e;cases hb;exact key q hq ju
   ·subst e';cases ju;exact key p hp hb
   ·exact Sj.sep p hp q hq hne b hb ju
 have hDl:∀D,({target:= .collected D,args:= #[]}:Deferred)∈aD.defers++w0.ds->D<W1.heap.size:=by
  intro D hD;have:∀{l:att Deferred},Marks w0 W1 H l->({target:= .collected D,args:= #[]}:Deferred)∈l->D<W1.heap.size:=by
   intro l
   induction l with
   |nil=>intro _ h;cases h
   |cons x l ih=>
    rintro⟨⟨D',ex,_,g2,_,_⟩,gr⟩ h;rcases aY.1 h with h|h
    ·rw[ex] at h;have hD:D=D':=by injection h with h _;injection h
     subst hD;exact lt_of_heap g2
    ·exact ih gr h
  exact this hsD.nd hD
 have Wj:w0.n<=W1.heap.size:=by have:=hs.below.size;omega
 have agk:∀s,∀p∈(N,bO.l7 (w.heap.size+1) zM)::eI s,p.2.kb=false:=fun s p hp=>by
  rcases aY.1 hp with e|hp
  ·subst e;rfl
  ·exact hinv s p hp
 have acx:∃Xy:Loop,Xy={zM with state:= .done,pending:=some .ret}:=⟨_,rfl⟩;obtain⟨Xy,acx⟩:=acx;have alX:∀G,Sc=some G->∀p∈(N,bO.l7 (w.heap.size+1) Xy)::G,p.2.kb=false:=fun G hG p hp=>by
  rcases aY.1 hp with e|hp
  ·subst e;rfl
  ·exact(lG (hTx G hG) hp).2.2.2
 let J:σ->Inv->Prop:=fun s I=>∃M,I=afp w0 H0 N ((N,.l7 (w.heap.size+1) zM)::eI s) aD W1.heap.size M (agk s) Wj hDl
 let Jx:Inv->Prop:=fun I=>∃G,∃hG:Sc=some G,∃M,I=afp w0 H0 N ((N,.l7 (w.heap.size+1) Xy)::G) aD W1.heap.size M (alX G hG) Wj hDl
 refine⟨w.heap.size+1,[{target:= .collected w.heap.size,args:= #[]}],W1,{target:= .fn (.func gf) cap,args:= #[.func (.yield<|w.heap.size+1) #[] #[]]},W1,gf,#[.func (.yield<|w.heap.size+1) #[] #[]]++cap,W1,?_,?_,?_,?_,(fun e=>by cases e),?_⟩
 ·rw[<-hW1,RN];exact run_enterLoop_outer _ _ _ _ _
 ·have eg':a.eval (.tmp gt)= .func (.func gf) #[] cap:=eg;simp only[resolve,eg'];simp[go_sem]
 ·intro f' _;trivial
 ·have:=ke Wo (#[.func (.yield<|w.heap.size+1) #[] #[]]++cap) W1;simp only[invoke];exact this
 ·
  have ec:(#[.func (.yield<|w.heap.size+1) #[] #[]]++cap:awa arH)=(.func (.yield<|w.heap.size+1) #[] #[]::cap.toList).toArray:=by apply Array.ext';simp
  rw[ec];refine CallsIn.ahs (adI<|amf Bd K s0 r hm (w.heap.size+1) J Jx W1 H cap.toList _ hsD.sub hsD.gl (DQ (HV.le.refl _) hcap) ⟨fun b=>∃p∈(N,bO.l7 (w.heap.size+1) zM)::eI s0,p.2.owns W1 (bh aD p.1) b,rfl⟩ rfl ⟨hsD,fun b=>Iff.rfl⟩ ?_) ?_
  ·
   rintro next x s I W Hc vs hBd ⟨M,rfl⟩ _ ⟨hS,hM⟩ dc hgl hvs
   have hM':∀b,M b->w0.nX b/\Hc b=none:=fun b hb=>by
    obtain⟨p,hp,hb⟩:=(hM b).1 hb;exact⟨bO.sw (agk s p hp) (hS.holds p hp) hb,(bO.oq (hS.holds p hp) hb).2.1⟩
   obtain⟨hl1,Ye,hl3⟩:=hS.holds (N,.l7 (w.heap.size+1) zM) (by simp);have Wc:vs.length=psl.length:=by rw[Aa hvs,hps x]
   have hy:=run_yield (P:=P) (args:=vs.toArray) hl1 (by rw[RN];simpa using Wc);refine⟨zM.fn,_,zM.assign,zM.body,hy,roundIn_of_wpIn trivial ?_⟩;have ea:zM.assign=assign:=by rw[RN]
   have eb:zM.body=body:=by rw[RN]
   have et:((zM.params.zip vs.toArray).foldl (fun tmps (t,a)=>tmps.setIfInBounds t a) zM.tmps)=((psl.zip vs).foldl (fun t (p,v)=>t.setIfInBounds p v) aD.tmps):=by
    rw[RN,<-haD];simp
   rw[ea,eb,et];obtain⟨wr,hwr⟩:∃wr:ar P,wr=⟨W,M,some<|w.heap.size+1,false,aD.defers,0,iR _,fun _ _=>iR _⟩:=⟨_,rfl⟩;have ai7:wr.rd=some (w.heap.size+1):=by rw[hwr]
   have Uf:Sat wr Hc N ((N,.l7 (w.heap.size+1) zM)::eI s) {aD with defers:=[]} W Hc:=by
    refine⟨?_,hS.sz,?_,fun _ _ _ _=>rfl,hS.sub,?_,hS.sep,hS.gl⟩
    ·rw[hwr];show Marks _ W Hc ([]++aD.defers);have h2:=hS.nd;rw[hds,rW] at h2;have:∀{l:att Deferred},Marks w0 W Hc l->Marks (⟨W,M,some<|w.heap.size+1,false,aD.defers,0,iR _,fun _ _=>iR _⟩:ar P) W Hc l:=by
      intro l
      induction l with
      |nil=>exact fun _=>trivial
      |cons x l ih=>exact fun⟨⟨D,e,_,g2,g3,g4⟩,gr⟩=>⟨⟨D,e,(fun h=>by cases h),g2,g3,g4⟩,ih gr⟩
     exact this h2
    ·rw[hwr];exact⟨rfl,rfl,rfl,bp _,bp _,fun _ _ _ _=>rfl⟩
    ·intro p hp;refine bO.pP (a:=aD) (fun _ _=>rfl)<|bO.qN (agk s p hp) (hS.holds p hp) fun b hb=>?_
     rw[hwr];exact .inr<|(hM b).2 ⟨p,hp,hb⟩
   have hr1:Sat wr Hc N (pins N T (fun t=>bh aD t)++((N,.l7 (w.heap.size+1) zM)::eI s)) {aD with defers:=[]} W Hc:=by
    refine Uf.ag6 fun p hp=>?_
    obtain⟨t,ht,rfl⟩:=bT.1 hp;exact⟨rfl,rfl⟩
   obtain⟨G,hG,LV⟩:=ML (ps:=psl) (τs:=enc x) (vs:=vs) hvs (hps x).symm (fun p hp=>by
    have h1:=dI.1 hpN p hp;simp only[bY,jl] at h1;have hpT:p∉T:=fun h=>by have:=AB.2 h;rw[h1.2] at this;cases this
    refine⟨gk h1.1,dI.2 fun q hq=>?_⟩;have hlt:=gk h1.1;simp only[bY,pf,ne_eq,jl];rcases bN.1 hq with hq|hq
    ·obtain⟨t,ht,rfl⟩:=bT.1 hq;refine⟨by simp only;omega,?_⟩;simp only[bO.c6,List.contains_cons,List.contains_nil,Lp,yw,ne_eq];exact fun e=>hpT<|e▸ht
    ·rcases aY.1 hq with e|hq
     ·subst e;exact⟨by simp only;omega,rfl⟩
     ·obtain⟨_,k2,k3,_⟩:=lG (hT s) hq;refine⟨fun e=>hpT<|e▸k2,?_⟩;cases hc:q.2.c6.contains p
      ·rfl
      ·exact absurd (k3 p<|AB.1 hc) hpT) Sk hr1
   have hr3:Sat wr Hc N (params psl (enc x)++((N,.l7 (w.heap.size+1) zM)::(pins N T (fun t=>bh aD t)++eI s))) _ W Hc:=LV.weaken fun q hq=>hG q (by
    simp only[bN,aY] at hq⊢;rcases hq with h|h|h|h
    ·exact .inl h
    ·exact .inr<| .inr<| .inl h
    ·exact .inr<| .inl h
    ·exact .inr<| .inr<| .inr h)
   have amH:=round wr Hc (w.heap.size+1) zM (fun t=>bh aD t) next x s ai7 hBd _ W Hc hr3
   rw[ai7] at amH;refine EK (F:=jd<|some<|w.heap.size+1) amH ?_;rintro e a1 W2 hq;cases e with
   |normal=>
    obtain⟨YN,H2,hS2,hdk,hgo⟩:=hq;have hb0:=hS2.holds (N,.l7 (w.heap.size+1) zM) (by simp);refine⟨_,run_beginRound hb0.1 (by rw[RN]),?_⟩;have amN:=Hg (l:=w.heap.size+1) (rc:=zM) (rc':=busy zM) hS2 (k:=N) (by simp);have edk:da N ((N,bO.l7 (w.heap.size+1) zM)::YN)=YN:=by
     have:Nat.beq N N=true:=by simp
     simp only[da,this,bD];exact hdk
    rw[edk] at amN;have ahV:=hgo a1 _ H2 amN;rw[ai7] at ahV;refine EK (F:=jd<|some<|w.heap.size+1) ahV ?_;rintro e a3 W3 hq3;cases e with
    |normal=>
     obtain⟨s',Kf,H3,hS3⟩:=hq3;have hb3:=hS3.holds (N,.l7 (w.heap.size+1)<|busy zM) (by simp);have NF:=Hg (l:=w.heap.size+1) (rc:=busy zM) (rc':=zM) hS3 (k:=N) (by simp);have ajZ:da N ((N,bO.l7 (w.heap.size+1)<|busy zM)::(pins N T (fun t=>bh aD t)++eI s'))=pins N T (fun t=>bh aD t)++eI s':=by
      have:Nat.beq N N=true:=by simp
      simp only[da,this,bD];refine R1 fun p hp=>?_
      rcases bN.1 hp with hp|hp
      ·obtain⟨t,_,rfl⟩:=bT.1 hp;simp only;omega
      ·exact ahL s' p hp
     rw[ajZ] at NF;obtain⟨hB1,hB2,hB3⟩:=Ta hS hds hrd hM' wr hwr NF<|hT s'
     have erc:({busy zM with state:=if(none:av8 Code).isNone then .ready else .done,pending:=none}:Loop)=zM:=by rw[RN];rfl
     refine⟨_,_,run_endRound none hb3.1,H3,afp w0 H0 N ((N,.l7 (w.heap.size+1) zM)::eI s') aD W1.heap.size (fun b=>∃p∈(N,bO.l7 (w.heap.size+1) zM)::eI s',p.2.owns (W3.putObj (w.heap.size+1)<| .loop zM) (bh aD p.1) b) (agk s') Wj hDl,rfl,?_,?_,?_,.inl ⟨rfl,s',Kf,_,rfl⟩⟩
     ·rw[erc];exact⟨hB1,fun b=>Iff.rfl⟩
     ·rw[erc];exact hB2
     ·rintro b ⟨p,hp,hb⟩;exact hB3 p hp b hb
    |ret=>
     obtain⟨G,hG,H3,hS3⟩:=hq3;have hb3:=hS3.holds (N,.l7 (w.heap.size+1)<|busy zM) (by simp);have NF:=Hg (l:=w.heap.size+1) (rc:=busy zM) (rc':=Xy) hS3 (k:=N) (by simp);have ajZ:da N ((N,bO.l7 (w.heap.size+1)<|busy zM)::(pins N T (fun t=>bh aD t)++G))=pins N T (fun t=>bh aD t)++G:=by
      have:Nat.beq N N=true:=by simp
      simp only[da,this,bD];refine R1 fun p hp=>?_
      rcases bN.1 hp with hp|hp
      ·obtain⟨t,_,rfl⟩:=bT.1 hp;simp only;omega
      ·exact Nat.ne_of_lt (lG (hTx G hG) hp).1
     rw[ajZ] at NF;obtain⟨hB1,hB2,hB3⟩:=Ta hS hds hrd hM' wr hwr NF<|hTx G hG
     have erc:({busy zM with state:=if(some Code.ret:av8 Code).isNone then .ready else .done,pending:=some .ret}:Loop)=Xy:=by rw[acx];rfl
     refine⟨_,_,run_endRound (some .ret) hb3.1,H3,afp w0 H0 N ((N,.l7 (w.heap.size+1) Xy)::G) aD W1.heap.size (fun b=>∃p∈(N,bO.l7 (w.heap.size+1) Xy)::G,p.2.owns (W3.putObj (w.heap.size+1)<| .loop Xy) (bh aD p.1) b) (alX G hG) Wj hDl,rfl,?_,?_,?_,.inr ⟨rfl,G,hG,_,rfl⟩⟩
     ·rw[erc];exact⟨hB1,fun b=>Iff.rfl⟩
     ·rw[erc];exact hB2
     ·rintro b ⟨p,hp,hb⟩;exact hB3 p hp b hb
    |exit id=>exact hq3.elim
    |goto t=>exact hq3.elim
    |panic ch=>exact hq3.elim
    |outgrown=>exact hq3.elim
   |ret=>exact hq.elim
   |exit id=>exact hq.elim
   |goto t=>exact hq.elim
   |panic ch=>exact hq.elim
   |outgrown=>exact hq.elim
  ·
   rintro e w3 ⟨⟨v,rfl⟩,H',I',hp,asz,(⟨s,hK,M,rfl⟩|⟨G,hG,M,rfl⟩)⟩
   ·obtain⟨hS,_⟩:=hp;obtain⟨hl1,_,_⟩:=hS.holds (N,.l7 (w.heap.size+1) zM) (by simp);have hel:=run_endLoop (P:=P) hl1 (by rw[RN];simp);have epe:zM.pending=none:=by rw[RN]
    rw[epe] at hel;refine⟨none,_,hel,?_⟩;have h5:=Hg (l:=w.heap.size+1) (rc:=zM) (rc':={zM with state:= .exhausted,pending:=none}) hS (k:=N) (by simp);have h6:Sat w0 H0 N (eI s) aD (w3.putObj (w.heap.size+1)<| .loop {zM with state:= .exhausted,pending:=none}) H':=h5.weaken fun q hq=>by
     refine cW _<|sB ?_<|ahL s q hq
     exact cW _ hq
    have:=kk s hK aD _ H' h6;rw[<-haD] at this;exact this
   ·obtain⟨hS,_⟩:=hp;obtain⟨hl1,_,_⟩:=hS.holds (N,.l7 (w.heap.size+1) Xy) (by simp);have hel:=run_endLoop (P:=P) hl1 (by rw[acx];simp);have epe:Xy.pending=some .ret:=by rw[acx]
    rw[epe] at hel;refine⟨some .ret,_,hel,?_⟩;refine wpIn_ret ?_;have h5:=Hg (l:=w.heap.size+1) (rc:=Xy) (rc':={Xy with state:= .exhausted,pending:=some .ret}) hS (k:=N) (by simp);have h6:Sat w0 H0 N G aD (w3.putObj (w.heap.size+1)<| .loop {Xy with state:= .exhausted,pending:=some .ret}) H':=h5.weaken fun q hq=>by
     refine cW _<|sB ?_<|Nat.ne_of_lt (lG (hTx G hG) hq).1
     exact cW _ hq
    have:=kx G hG aD _ H' h6;rw[<-haD] at this;exact this
end
section
variable[D:DR]
def ar.iter(P:atp)(w:arG):ar P:=⟨w,Sh,none,true,[],w.heap.size,bp _,fun _ h=>h.elim⟩
end
section
variable[D:DR]
variable{P:Program}{w0:ar P}{H0:HV}{N:Nat}{Q:Exit->Act->World->Prop}{Γ aA:Ctx}
variable{σ ρ:Type}{r:ρ}{J:σ->Inv->Prop}{I:Inv}{Jx:Inv->Prop}{α:Type}{enc:α->att Ty}{ts:att Nat}{fn:Func}{s:σ}{ops:awa Oper}{xs:att atq}{ty:ato}{pos:String}{af:awa Edge}{K:σ->av8 ρ}{a:Act}{w:arG}{H:HV}{Bd:(σ->av8 ρ)->α->σ->av8 ρ}{l:Nat}{next:σ->av8 ρ}{x:α}{t dy dn:Nat}{zP:awa ato}{OH tb:ato}{pos':String}{O7:awa Edge}{Fm:Ctx}
def ag9{σ ρ:Type}(K:σ->av8 ρ)(r:ρ)(J:σ->Inv->Prop)(Jx:Inv->Prop)(e:Ending)(w':arG):Prop:=
 (∃v,e= .returned v)/\∃H' I',I'.p w' H'/\(∀r o,H' r=some o->w'.heap[r]? =some o)/\((∃s,K s=some r/\J s I')\/Jx I')
def aeg(P:atp)(fn:Func)(R:Ending->arG->Prop):Exit->Act->arG->Prop:=bodyPostM (jd none) 0 P fn R
def Es(l:Nat):Ty:=TEq (.func (.yield l) #[] #[]) rfl
def PV(hX:(w0.ds,w0.rd)=([],none))(hr:fn.results= #[])(hI:look Γ N=some (.inv I))(hK:(∃s,K s=some r/\J s I)\/Jx I)
 (hs:Sat w0 H0 N Γ a w H):LeavesInM (jd none) 0 P fn a.tmps (ag9 K r J Jx) a.defers .returning w:=by
 refine tT (congrArg (fun p=>p.1) hX) (congrArg (fun p=>p.2) hX) (a:=a) (ds:=a.defers) hs fun w H hs=>?_
 refine⟨.tuple #[],?_,⟨_,rfl⟩,H,I,(hs.holds _<|aF hI).1,hs.sub,hK⟩;rw[y9 (rs:=[]) (by rw[hr])];simp
def adL(hX:(w0.ds,w0.rd)=([],none))(hr:fn.results= #[])(hI:look Γ N=some (.inv I))(hK:K s=some r)(hJ:J s I):
  oU w0 H0 N (fun a w=>aeg P fn (ag9 K r J Jx) .normal a w) Γ:=fun _ _ _ hs=>PV hX hr hI (.inl ⟨s,hK,hJ⟩) hs
def YC(hX:(w0.ds,w0.rd)=([],none))(hr:fn.results= #[])(hI:look Γ N=some (.inv I))(hJ:Jx I):
  oU w0 H0 N (fun a w=>aeg P fn (ag9 K r J Jx) .ret a w) Γ:=fun _ _ _ hs=>PV hX hr hI (.inr hJ) hs
def Nr{gf:FuncId}{c:Code}{qn:att Ty}{L:att α}{N:Nat}(hf:P.funcs[gf]? =some fn)(hb:fn.body=some c)(hN:fn.ntmps=N)(hn:qn.length+1<=N)(hc:fR P gf=true)
 (h:∀{σ ρ:Type} (Bd:(σ->av8 ρ)->α->σ->av8 ρ) (K:σ->av8 ρ) (s0:σ) (r:ρ),Oh L Bd s0 K=some r->∀(l:Nat) (J:σ->Inv->Prop) (Jx:Inv->Prop) (w:arG) (H:HV) (I0:Inv),J s0 I0->I0.n=w.heap.size->
 IF P l enc Bd r J Jx w.heap.size->Goal P (ar.iter P w) H N c (aeg P fn<|ag9 K r J Jx) ((N,.inv I0)::lC 0 (Es l::qn))):Ev P gf qn enc L:=by
 subst hN;refine⟨hc,fun Bd K s0 r hm l J Jx w H cvs I0 sub gl ij hJ hI hIp hy=>?_⟩;have ajg:Ce H (Es l::qn) (.func (.yield l) #[] #[]::cvs):=⟨_,_,rfl,rfl,ij⟩;have hS:=P8 (P:=P) (n:=fn.ntmps) sub gl ajg (by simpa using hn);refine(callsIn_wide (n:=0)).1<|callsIn_of_wp_marks (F:=Fence.wide) hf hb trivial<|h Bd K s0 r hm l J Jx w H I0 hJ hI hy _ w H ?_
 have Bk:∀p∈lC 0 (Es l::qn),p.2.kb=false/\∀v b,¬p.2.owns w v b:=by
  have:∀(l:att Ty) (i:Nat),∀p∈lC i l,p.2.kb=false:=by
   intro l
   induction l with
   |nil=>intro i p hp;simp[lC] at hp
   |cons τ l ih=>
    intro i p hp;simp only[lC,aY] at hp;rcases hp with e|hp
    ·subst e;rfl
    ·exact ih _ p hp
  exact fun p hp=>⟨this _ _ p hp,fun v b=>Gv p hp⟩
 refine⟨trivial,hS.sz,⟨rfl,rfl,rfl,bp _,bp _,fun _ _ _ _=>rfl⟩,fun _ _ _ _=>rfl,hS.sub,?_,?_,hS.gl⟩
 ·intro p hp;rcases aY.1 hp with e|hp
  ·subst e;exact⟨hIp,hI⟩
  ·exact bO.qN (Bk p hp).1 (hS.holds p hp) fun b hb=>absurd hb<|(Bk p hp).2 _ b
 ·intro p hp q hq hne b hb ju;rcases aY.1 hp with e|hp
  ·rcases aY.1 hq with e'|hq
   ·subst e;subst e';exact hne rfl
   ·exact(Bk q hq).2 _ b ju
  ·exact(Bk p hp).2 _ b hb
def Zi{w':arG}{H':HV}{k:Nat}{I':Inv}(hv:w0.OG=true)(FX:w0.lo=w0.n)(hs:Sat w0 H0 N Γ a w H)(hk:(k,.inv I)∈Γ)(Bk:∀q∈da k Γ,q.2.kb=false)
 (hy:IG I.M w H w' H')(hI:I'.n=w0.n)(hp:I'.p w' H')(hM:∀b,I'.M b->I.M b\/w.heap.size<=b):Sat w0 H0 N ((k,.inv I')::da k Γ) a w' H':=by
 have hIk:=hs.holds _ hk;have other:∀q∈da k Γ,∀b,q.2.owns w (bh a q.1) b-> ¬I.M b:=fun q hq b hb hm=>hs.sep q (bG q hq).1 _ hk (bG q hq).2 b hb hm
 have Vi:∀q∈da k Γ,∀b,q.2.owns w (bh a q.1) b->w'.heap[b]? =w.heap[b]? /\H' b=H b:=fun q hq b hb=>
  hy.mH b (bO.oq (hs.holds q (bG q hq).1) hb).1 (other q hq b hb)
 have key:∀q∈da k Γ,q.2.holds w0 a w' H' (bh a q.1)/\∀b,q.2.owns w' (bh a q.1) b↔q.2.owns w (bh a q.1) b:=fun q hq=>by
  refine bO.wm (n:=0) (hs.holds q (bG q hq).1) (fun hi=>by rw[Bk q hq] at hi;cases hi) ?_;exact⟨hy.size,hy.os,hy.tape,hy.output,hy.drawn,hy.le,fun b _ h=>h.elim (fun h=>by omega)<|fun h=>(Vi q hq b h).1,fun b _ h=>h.elim (fun h=>by omega)<|fun h=>(Vi q hq b h).2,hy.sub⟩
 refine⟨?_,hs.sz,?_,fun h=>by(rw[hv] at h;cases h),hy.sub,?_,?_,hs.gl.mono hy.le⟩
 ·refine hs.nd.kept fun D _ h1 h2=>?_
  have hn: ¬I.M D:=fun hm=>by
   obtain⟨_,_,o,ho,Vg⟩:=I.lt hIk.1 hm;rw[h1] at ho;cases ho;exact Vg
  have:=hy.mH D (lt_of_heap h1) hn;exact⟨by rw[this.1];exact h1,by rw[this.2];exact h2⟩
 ·exact⟨hy.os.trans hs.below.os,hy.tape.trans hs.below.tape,hy.output.trans hs.below.output,df hs.below.drawn hy.drawn,df hs.below.size hy.size,fun h=>by rw[hv] at h;cases h⟩
 ·intro q hq;rcases aY.1 hq with e|hq
  ·subst e;exact⟨hp,by rw[FX];exact hI⟩
  ·exact(key q hq).1
 ·have low:∀q∈da k Γ,∀b,q.2.owns w' (bh a q.1) b-> ¬I'.M b:=fun q hq b hb hm=>by
   have hb:=((key q hq).2 b).1 hb;rcases hM b hm with h|h
   ·exact other q hq b hb h
   ·have:=(bO.oq (hs.holds q (bG q hq).1) hb).1;omega
  intro q hq r hr hne b hb ju;rcases aY.1 hq with e|hq<;>rcases aY.1 hr with e'|hr
  ·subst e;subst e';exact hne rfl
  ·subst e;exact low r hr b ju hb
  ·subst e';exact low q hq b hb ju
  ·exact hs.sep q (bG q hq).1 r (bG r hr).1 hne b (((key q hq).2 b).1 hb)<|((key r hr).2 b).1 ju
def ue.aip{l:att Oper}(h:ue P w0 N ops l Γ aA):uG l=true->∀(l2:att Oper) (H0:HV) (a:Act) (w:arG) (H:HV),Sat w0 H0 N Γ a w H->∀(Q:Exit->Act->arG->Prop),
  (∀a' w' H',Sat w0 H0 N aA a' w' H'->wpListIn (jd w0.rd) 0 P ops Q l2 a' w')->wpListIn (jd w0.rd) 0 P ops Q (l++l2) a w:=by
 induction h with
 |done=>exact fun _ _ _ _ _ H hs _ k=>k _ _ H hs
 |fin h=>exact fun _ _ _ _ _ H hs _ k=>k _ _ H<|hs.weaken h.sub
 | @cons _ _ _ o l h _ ih=>
  intro ij l2 H0 a w H hs Q k;have C6:=h w0 H0 a w H hs (wpListIn (jd w0.rd) 0 P ops Q<|l++l2) Q fun a' w' H' ui=>ih (MZ ij) l2 H0 a' w' H' ui Q k
  show wpListIn _ _ _ _ _ (o::(l++l2)) a w;unfold wpListIn;split
  ·rename_i hw;rw[if_pos hw] at C6;exact Ht (Gc ij (by simp)) C6
  ·rename_i hw;rw[if_neg hw] at C6;exact⟨fun _ _=>trivial,C6⟩
 |ghost h _ ih=>
  intro ij l2 H0 a w H hs Q k;obtain⟨H',ui⟩:=h H0 a w H hs;exact ih ij l2 H0 a w H' ui Q k
def yOk(N dy dn:Nat)(Γ:Ctx):Bool:=Γ.all fun p=>p.1 !=N&&p.1 !=dy&&p.1 !=dn&&p.2.c6.all (fun t=>t !=dy&&t !=dn)&& !p.2.kb
def My
 {Q:Exit->Act->arG->Prop}
 (hv:(w0.OG,w0.rd,w0.X)=(true,none,Sh))(FX:w0.lo=w0.n)(hy:IF P l enc Bd r J Jx w0.n)
 (hm:Bd next x s=some r)(hJ:J s I)(ht:look Γ t=some (.val<|Es l))(ha:aU Γ xs (enc x))(hI:look Γ N=some (.inv I))(Ee:ye Γ ts Fm)(ij:yOk N dy dn Fm=true)(hdy:dy<N)(hdn:dn<N)
 (kt:∀s' I',next s'=some r->J s' I'->oU w0 H0 N (Q .normal) ((dn,.val<|bj false)::(N,.inv I')::Fm))(kf:∀I',Jx I'->oU w0 H0 N (Q .normal) ((dn,.val<|bj true)::(N,.inv I')::Fm))
 (hs:Sat w0 H0 N Γ a w H):
  wpListIn (jd w0.rd) 0 P ops Q [⟨some dy,.call ⟨.value<| .tmp t,xs.toArray,zP⟩,ty,pos,af,none⟩,⟨some dn,.unOp .not tb<| .tmp dy,OH,pos',O7,none⟩] a w:=by
 obtain⟨hv1,hv2,hv3⟩:w0.OG=true/\w0.rd=none/\w0.X=Sh:=by
  refine⟨congrArg (fun p=>p.1) hv,congrArg (fun p=>p.2.1) hv,congrArg (fun p=>p.2.2) hv⟩
 have e1:a.eval (.tmp t)= .func (.yield l) #[] #[]:=hs.holds _<|aF ht
 have hI0:=hs.holds _<|aF hI
 have hIn:I.n=w0.n:=by rw[<-FX];exact hI0.2
 obtain⟨fn,tmps,assign,body,sO,ajc⟩:=hy next x s I w H (xs.map a.eval) hm hJ hIn hI0.1 hs.sub hs.gl<|ha.ok hs
 unfold wpListIn;have hw:Region.wanted (⟨some dy,.call ⟨.value<| .tmp t,xs.toArray,zP⟩,ty,pos,af,none⟩:Oper) (yielded ops a.tmps)=true:=rfl;rw[if_pos hw];refine⟨fun _ _=>trivial,?_⟩;rw[Oper.semAt_eq _ _ _ (by intro c e;cases e)];have e0:execOp a.eval ⟨some dy,.call ⟨.value<| .tmp t,xs.toArray,zP⟩,ty,pos,af,none⟩=Instr.yield l (#[]++xs.toArray.map a.eval++ #[]):=by
  simp only[execOp,resolve,e1,Deferred.ofValue,pure_bind]
  rfl
 have e2:(#[]++xs.toArray.map a.eval++ #[])=(xs.map a.eval).toArray:=by simp
 rw[e0,e2,sO];refine⟨(fun e=>by cases e),?_⟩;rw[hv2];refine RoundIn.mono ajc ?_;rintro e w' ⟨H',I',aqB,aqA,alR,hM,amz⟩;have au3:∀q∈Fm,q∈da N Γ:=fun q hq=>by
  have h1:=dI.1 ij q hq;simp only[bY,pf,ne_eq] at h1;exact sB (Ee.sub q hq) h1.1.1.1.1
 have hinv:∀q∈da N ((N,.inv I)::Fm),q.2.kb=false:=fun q hq=>by
  have hq':=bG q hq;rcases aY.1 hq'.1 with e|h
  ·subst e;exact absurd rfl hq'.2
  ·have h1:=dI.1 ij q h;simp only[bY,jl] at h1;exact h1.2
 have hs1:Sat w0 H0 N ((N,.inv I)::Fm) a w H:=hs.weaken fun q hq=>by
  rcases aY.1 hq with e|h
  ·subst e;exact aF hI
  ·exact Ee.sub q h
 have Sj:=Zi hv1 FX hs1 (k:=N) (by simp) hinv alR aqB aqA hM;have hfr:∀d,(d=dy\/d=dn)->pj d ((N,.inv I')::Fm)=true:=by
  intro d hd;simp only[pj,ti,bY,dI,pf,ne_eq];refine⟨⟨by rcases hd with h|h<;>subst h<;>omega,by simp[bO.c6]⟩,fun q hq=>?_⟩;have h1:=dI.1 ij q hq;simp only[bY,pf,ne_eq,dI] at h1;obtain⟨⟨⟨⟨h2,h3⟩,h4⟩,h5⟩,h6⟩:=h1;refine⟨by rcases hd with h|h<;>subst h<;>assumption,?_⟩;simp only[jl,RB,me];intro hm;have:=h5 d hm;rcases hd with h|h<;>subst h
  ·exact this.1 rfl
  ·exact this.2 rfl
 have hs3:Sat w0 H0 N ((N,.inv I')::Fm) a w' H':=Sj.weaken fun q hq=>by
  rcases aY.1 hq with e|h
  ·subst e;simp
  ·refine cW _ (sB (cW _ h) ?_);have h1:=dI.1 ij q h;simp only[bY,pf,ne_eq] at h1;exact h1.1.1.1.1
 have fin:∀b:Bool,e= .returned (.bool b)->oU w0 H0 N (Q .normal) ((dn,.val<|bj !b)::(N,.inv I')::Fm)->
   (match e with
   | .returned v=>wpListIn (jd none) 0 P ops Q [⟨some dn,.unOp .not tb<| .tmp dy,OH,pos',O7,none⟩] (a.put (some dy) v) w'
   | .panicked chain=>Q (.panic chain) a w'
   | .outgrown=>LetsOut Q):=by
  intro b eb kk;subst eb;have hs4:=uD hs3 hdy (hfr dy<| .inl rfl) (s:= .val<|bj b) (v:= .bool b) (by simp[bO.c6]) rfl<|fun c h=>h.elim
  have Sm:ue P w0 N ops [⟨some dn,.unOp .not tb<| .tmp dy,OH,pos',O7,none⟩] ((dy,.val<|bj b)::(N,.inv I')::Fm) ((dn,.val<|bj !b)::del dn ((dy,.val<|bj b)::(N,.inv I')::Fm)):=
   ue.cons (Step.over (fT (Arg.t (t:=dy) (by simp[look]))) rfl rfl hdn rfl) ue.done
  have:=Sm.sound rfl H0 _ w' H' hs4 Q (fun a' w' H' ui=>kk a' w' H' (ui.weaken fun q hq=>by
   rcases aY.1 hq with e|h
   ·subst e;simp
   ·refine cW _ (ym (cW _ h) ?_ ?_)
    ·exact(xw (hfr dn<| .inr rfl) q h).1
    ·exact(xw (hfr dn<| .inr rfl) q h).2))
  rw[hv2] at this;exact this
 rcases amz with⟨rfl,s',Kf,hJ'⟩|⟨rfl,hJ'⟩
 ·exact fin true rfl<|kt s' I' Kf hJ'
 ·exact fin false rfl<|kf I' hJ'
def agK
 {l1:att Oper}{id:Nat}{Fl:Ctx}
 (hv:(w0.OG,w0.rd,w0.X)=(true,none,Sh))(FX:w0.lo=w0.n)(hy:IF P l enc Bd r J Jx w0.n)
 (hm:Bd next x s=some r)(hJ:J s I)(aje:ops=List.toArray (l1++([⟨some dy,.call ⟨.value<| .tmp t,xs.toArray,zP⟩,ty,pos,af,none⟩,⟨some dn,.unOp .not tb<| .tmp dy,OH,pos',O7,none⟩]:att Oper)))(ajf:uG l1=true)(Sm:ue P w0 N ops l1 Γ Fl)
 (ht:look Fl t=some (.val<|Es l))(ha:aU Fl xs (enc x))(hI:look Fl N=some (.inv I))(Ee:ye Fl ts Fm)(ij:yOk N dy dn Fm=true)(hdy:dy<N)(hdn:dn<N)
 (kt:∀s' I',next s'=some r->J s' I'->oU w0 H0 N (Q .normal) ((dn,.val<|bj false)::(N,.inv I')::Fm))(kf:∀I',Jx I'->oU w0 H0 N (Q .normal) ((dn,.val<|bj true)::(N,.inv I')::Fm)):
  Goal P w0 H0 N (.region id ops false) Q Γ:=by
 subst aje;exact fun a w H hs=>wpIn_region_lit<|Sm.aip ajf _ H0 a w H hs Q fun a' w' H' ui=>My hv FX hy hm hJ ht ha hI Ee ij hdy hdn kt kf ui
def ac3
 {id k:Nat}{Fl:Ctx}{tsr:att Nat}{S:att Ctx}
 (hv:(w0.OG,w0.rd,w0.X)=(true,none,Sh))(FX:w0.lo=w0.n)(hy:IF P l enc Bd r J Jx w0.n)
 (hm:Bd next x s=some r)(hJ:J s I)(kl:att (att<|Nat×att Nat))(L:att Nat)(av jP:att (att Nat))(jO:att Bool)(Z6:P.follows .mixedOrders=true)(hc:(El ops av&&UP k kl jP jO L av&&yC ops k av)=true)
 (ajf:uG (ops.toList.take k)=true)(hp:jr P N ops Γ [] (ops.toList.take k) jP jO S)(RP:S.reverse.map Gj=kl)(hL:vk Γ=L)(hsl:ye (S.flatten++Γ) ts Fl)
 (aje:ops.toList.drop k=[⟨some dy,.call ⟨.value<| .tmp t,xs.toArray,zP⟩,ty,pos,af,none⟩,⟨some dn,.unOp .not tb<| .tmp dy,OH,pos',O7,none⟩])
 (ht:look Fl t=some (.val<|Es l))(ha:aU Fl xs (enc x))(hI:look Fl N=some (.inv I))(Ee:ye Fl tsr Fm)(ij:yOk N dy dn Fm=true)(hdy:dy<N)(hdn:dn<N)
 (kt:∀s' I',next s'=some r->J s' I'->oU w0 H0 N (Q .normal) ((dn,.val<|bj false)::(N,.inv I')::Fm))(kf:∀I',Jx I'->oU w0 H0 N (Q .normal) ((dn,.val<|bj true)::(N,.inv I')::Fm)):
  Goal P w0 H0 N (.region id ops true) Q Γ:=by
 simp only[bY] at hc;refine fun a w H hs=>Xg Z6 ajf hc.1.1 hc.1.2 hc.2 RP hL hp hsl (H0:=H0) (fun a w H hs=>?_) hs
 rw[aje];exact My hv FX hy hm hJ ht ha hI Ee ij hdy hdn kt kf hs
def anx{P:atp}{α σ ρ:Type}(w0:ar P)(H0:HV)(N:Nat)(J:σ->Inv->Prop)(st:α->σ)(Pa:α->Ctx)(k:α->av8 ρ)(r:ρ)(a:Act)(w:arG):Prop:=
 ∃i I,k i=some r/\J (st i) I/\∃H,Sat w0 H0 N ((N,.inv I)::Pa i) a w H
def adJ{st:α->σ}{Pa:α->Ctx}{k:α->av8 ρ}{i:α}(hm:k i=some r)(hJ:J (st i) I)(h:ye Γ ts ((N,.inv I)::Pa i)):
  oU w0 H0 N (fun a w=>anx w0 H0 N J st Pa k r a w) Γ:=fun _ _ H hs=>⟨i,I,hm,hJ,H,hs.weaken h.sub⟩
def Yo{τ:Type}(st:τ->σ)(eI:τ->Ctx){n:Nat}{B:(τ->av8 ρ)->τ->av8 ρ}{s0:τ}{I0:Inv}{c:Code}(hm:lp n B s0=some r)(hJ:J (st s0) I0)(h0:ye Γ ts ((N,.inv I0)::eI s0))
 (round:∀(k:τ->av8 ρ) (s:τ) (I:Inv),B k s=some r->J (st s) I->Goal P w0 H0 N c (Exit.then (anx w0 H0 N J st eI k r) Q) ((N,.inv I)::eI s)):Goal P w0 H0 N (.loop c) Q Γ:=by
 intro a w H hs;refine wp_loop_ghost (fun(i:Nat×τ) a w=>lp i.1 B i.2=some r/\∃I H,J (st i.2) I/\Sat w0 H0 N ((N,.inv I)::eI i.2) a w H) (fun i=>i.1) (n,s0) ⟨hm,I0,H,hJ,hs.weaken h0.sub⟩ ?_;rintro⟨m,s⟩ a w ⟨hl,I,H,hJ,hs⟩;cases m with
 |zero=>cases hl
 |succ m=>
  refine EK (round (lp m B) s I hl hJ a w H hs) fun e a' w' q=>?_
  cases e with
  |normal=>obtain⟨i,I',hi,hJ',H',ui⟩:=q;exact⟨(m,i),⟨hi,I',H',hJ',ui⟩,Nat.lt_succ_self m⟩
  |_=>exact q
def M3{o:av8 (att α)}{f:FuncId}{qn:att Ty}{d:av8 Tmp}{g:av8 (Nat×Bool)}(ha:aU Γ xs qn)(h:∀L,o=some L->Ev P f qn enc L):
  bR P Γ ⟨d,.makeFunc (.func f) #[] xs.toArray,ty,pos,af,g⟩ (.val<|Xd P enc o):=
 bE fun _ _ _ a w H hs=>by
  refine⟨.func (.func f) #[] (xs.map a.eval).toArray,?_,⟨f,_,qn,rfl,by simpa using ha.ok hs,h⟩,rfl⟩;simp[execOp,Instr.makeFunc]
end
section
variable[D:DR]
variable{P:Program}{w0:ar P}{H0:HV}{N:Nat}{ops:Array Oper}{Q:Exit->Act->World->Prop}{Γ aA:Ctx}{d:Option Tmp}{ty:TypeId}{pos:String}{af:Array Edge}{g:Option (Nat×Bool)}
variable{w:arG}{a:Act}{H:HV}{B:ar P}{i:Nat}{v:arH}{t:Nat}{T:ato}{b off:Nat}{gg:Bool}
def eN:att lE->Nat->Nat
 |[],_=>0
 |_::_,0=>0
 |p::l,i+1=>p.n+eN l i
def pv(p:lE)(off:Nat)(cs:att arH):arH:=Jo p.agg ((cs.drop off).take p.n).toArray
def pJ{w:arG}{b:Nat}:∀{ps:att lE} {cs:att arH},lX w b ps cs↔∃(i:Nat) (p:lE),ps[i]? =some p/\p.owns w (pv p (eN ps i) cs) b
 |[],cs=>by simp[lX]
 |p::l,cs=>by
  simp only[lX,pJ (ps:=l)];constructor
  ·rintro(h|⟨i,q,h1,h2⟩)
   ·exact⟨0,p,rfl,by simpa[pv,eN] using h⟩
   ·exact⟨i+1,q,by simpa using h1,by simpa[pv,eN,iS] using h2⟩
  ·rintro⟨i,q,h1,h2⟩;cases i with
   |zero=>simp at h1;subst h1;exact .inl (by simpa[pv,eN] using h2)
   |succ i=>exact .inr ⟨i,q,by simpa using h1,by simpa[pv,eN,iS] using h2⟩
def MJ{w:arG}:∀{ps:att lE} {cs:att arH},KB w ps cs↔∀(i j:Nat) (p q:lE),i<j->ps[i]? =some p->ps[j]? =some q->∀b,p.owns w (pv p (eN ps i) cs) b-> ¬q.owns w (pv q (eN ps j) cs) b
 |[],cs=>by simp[KB]
 |p::l,cs=>by
  simp only[KB,MJ (ps:=l)];constructor
  ·rintro⟨h1,h2⟩ i j a b Vh ha hb c hc AF;cases j with
   |zero=>omega
   |succ j=>
    have ju:l[j]? =some b:=by simpa using hb
    have GF:b.owns w (pv b (eN l j)<|cs.drop p.n) c:=by simpa[pv,eN,iS] using AF
    cases i with
    |zero=>
     simp at ha;subst ha;exact h1 c (by simpa[pv,eN] using hc)<|pJ.2 ⟨j,b,ju,GF⟩
    |succ i=>exact h2 i j a b (by omega) (by simpa using ha) ju c (by simpa[pv,eN,iS] using hc) GF
  ·intro h;refine⟨fun b hb ho=>?_,fun i j a b Vh ha hb c hc AF=>?_⟩
   ·obtain⟨j,q,h1,h2⟩:=pJ.1 ho;exact h 0 (j+1) p q (by omega) rfl (by simpa using h1) b (by simpa[pv,eN] using hb) (by simpa[pv,eN,iS] using h2)
   ·exact h (i+1) (j+1) a b (by omega) (by simpa using ha) (by simpa using hb) c (by simpa[pv,eN,iS] using hc) (by simpa[pv,eN,iS] using AF)
def y6{n:Nat}{agg:Bool}(h:Shape n agg v):v.cells.toList.length=n:=by simpa using h.size
def Cf{B:ar P}{a:Act}{w:arG}{H:HV}:∀{ps:att lE} {cs:att arH} {i:Nat} {p:lE},OS B a w H ps cs->ps[i]? =some p->
  eN ps i+p.n<=cs.length/\Shape p.n p.agg (pv p (eN ps i) cs)/\p.holds B a w H (pv p (eN ps i) cs)/\(pv p (eN ps i) cs).cells.toList=(cs.drop<|eN ps i).take p.n
 |[],_,i,_,_,h=>by simp at h
 |p::l,_,0,q,⟨v,rest,e,pt,hv,hr⟩,h=>by
  simp at h;subst h;subst e;have hl:=y6 pt;have e1:pv p (eN (p::l) 0) (v.cells.toList++rest)=v:=by simpa[pv,eN] using(pA (rest:=rest) pt).1
  rw[e1];refine⟨by simp[eN];have:=pt.size;omega,pt,hv,?_⟩;simp only[eN,wU];rw[<-hl,Ls]
 |p::l,_,i+1,q,⟨v,rest,e,pt,hv,hr⟩,h=>by
  simp at h;subst e;obtain⟨h1,h2,h3,h4⟩:=Cf hr h;have hd:List.drop (eN (p::l)<|i+1) (v.cells.toList++rest)=List.drop (eN l i) rest:=by
   simp only[eN];rw[<-y6 pt,vh];simp
  have e1:pv q (eN (p::l)<|i+1) (v.cells.toList++rest)=pv q (eN l i) rest:=by simp only[pv,hd]
  rw[e1,hd];refine⟨?_,h2,h3,h4⟩;have:=pt.size;simp[eN];omega
def Rf{B:ar P}{a:Act}{w:arG}{H:HV}:∀{ps:att lE} {cs:att arH} {i:Nat} {p q:lE} {x:arH},OS B a w H ps cs->ps[i]? =some p->Shape q.n q.agg x->q.n=p.n->q.holds B a w H x->
  OS B a w H (ps.set i q) (cs.take (eN ps i)++x.cells.toList++cs.drop (eN ps i+p.n))/\eN (ps.set i q) i=eN ps i/\pv q (eN ps i) (cs.take (eN ps i)++x.cells.toList++cs.drop (eN ps i+p.n))=x/\
  ∀(j:Nat) (r:lE),j≠i->ps[j]? =some r->eN (ps.set i q) j=eN ps j/\pv r (eN ps j) (cs.take (eN ps i)++x.cells.toList++cs.drop (eN ps i+p.n))=pv r (eN ps j) cs
 |[],_,i,_,_,_,_,h,_,_,_=>by simp at h
 |p::l,_,0,q,r,x,⟨v,rest,e,pt,hv,hr⟩,h,hx,hn,hq=>by
  simp at h;subst h;subst e;have hl:=y6 pt;have Ir:=y6 hx;have hd:List.drop (eN (p::l) 0+p.n) (v.cells.toList++rest)=rest:=by
   simp only[eN,vd];rw[<-hl,ES]
  rw[hd];simp only[List.set_cons_zero,eN,List.take_zero,qL];refine⟨⟨x,rest,rfl,hx,hq,hr⟩,trivial,by simpa[pv] using(pA (rest:=rest) hx).1,?_⟩;intro j s hj hs;cases j with
  |zero=>exact absurd rfl hj
  |succ j=>
   simp only[eN,hn,true_and,pv];have e1:List.drop (p.n+eN l j) (x.cells.toList++rest)=List.drop (eN l j) rest:=by rw[<-hn,<-Ir,vh];simp
   have e2:List.drop (p.n+eN l j) (v.cells.toList++rest)=List.drop (eN l j) rest:=by rw[<-hl,vh];simp
   rw[e1,e2]
 |p::l,_,i+1,q,r,x,⟨v,rest,e,pt,hv,hr⟩,h,hx,hn,hq=>by
  simp at h;subst e;have hl:=y6 pt;obtain⟨h1,h2,h3,h4⟩:=Rf hr h hx hn hq;have et:List.take (eN (p::l)<|i+1) (v.cells.toList++rest)=v.cells.toList++List.take (eN l i) rest:=by
   simp only[eN];rw[<-hl,Ia];simp[eF]
  have ed:List.drop (eN (p::l) (i+1)+q.n) (v.cells.toList++rest)=List.drop (eN l i+q.n) rest:=by
   simp only[eN];rw[<-hl,rR,vh];simp
   done
  have ec:List.take (eN (p::l)<|i+1) (v.cells.toList++rest)++x.cells.toList++List.drop (eN (p::l) (i+1)+q.n) (v.cells.toList++rest)=v.cells.toList++(List.take (eN l i) rest++x.cells.toList++List.drop (eN l i+q.n) rest):=by
   rw[et,ed];simp[nR]
  rw[ec];have sh:∀(s:lE) (o:Nat) (zJ:att arH),pv s (p.n+o) (v.cells.toList++zJ)=pv s o zJ:=fun s o zJ=>by
   simp only[pv];have:List.drop (p.n+o) (v.cells.toList++zJ)=List.drop o zJ:=by
    rw[vh,xJ (by omega),hl];simp
   rw[this]
  refine⟨⟨v,_,rfl,pt,hv,h1⟩,by simp[eN,h2],?_,?_⟩
  ·simp only[eN];rw[sh];exact h3
  ·intro j s hj hs;cases j with
   |zero=>
    simp at hs;subst hs;refine⟨rfl,?_⟩;simp only[eN];have g1:=(pA (rest:=List.take (eN l i) rest++x.cells.toList++List.drop (eN l i+q.n) rest) pt).1;have g2:=(pA (rest:=rest) pt).1;simp only[pv,wU];rw[g1,g2]
   |succ j=>
    obtain⟨k1,k2⟩:=h4 j s (by omega) (by simpa using hs);refine⟨by simp[eN,k1],?_⟩;simp only[eN];rw[sh,sh];exact k2
def Gs{α:Type}{l:att α}{j:Nat}{x:α}(h:j≠i):(l.set i x)[j]? =l[j]? :=by
 rw[List.getElem?_set_ne<|Ne.symm h]
def BC{ps:att lE}{cs:att arH}{p q:lE}{x:arH}(h:OS B a w H ps cs)(hs:KB w ps cs)(hi:ps[i]? =some p)(hx:Shape q.n q.agg x)(hn:q.n=p.n)(hq:q.holds B a w H x)
 (ajb:∀b,q.owns w x b->p.owns w (pv p (eN ps i) cs) b\/ ¬lX w b ps cs):
  ∃zJ,zJ=cs.take (eN ps i)++x.cells.toList++cs.drop (eN ps i+p.n)/\OS B a w H (ps.set i q) zJ/\KB w (ps.set i q) zJ/\
   (∀b,lX w b (ps.set i q) zJ->q.owns w x b\/(lX w b ps cs/\ ¬p.owns w (pv p (eN ps i) cs) b)):=by
 obtain⟨h1,h2,h3,h4⟩:=Rf h hi hx hn hq;have hlt:=(kE.1 hi).1;have at':∀j s,(ps.set i q)[j]? =some s->(j=i/\s=q)\/(j≠i/\ps[j]? =some s):=fun j s hj=>by
  by_cases e:j=i
  ·subst e;rw[Ih hlt] at hj;exact .inl ⟨rfl,(eQ hj).symm⟩
  ·exact .inr ⟨e,by rwa [Gs e] at hj⟩
 have ui:=MJ.1 hs;have sym:∀j s,j≠i->ps[j]? =some s->∀b,s.owns w (pv s (eN ps j) cs) b-> ¬p.owns w (pv p (eN ps i) cs) b:=fun j s hj hjs b hb ju=>by
  rcases Nat.lt_or_gt_of_ne hj with h|h
  ·exact ui j i s p h hjs hi b hb ju
  ·exact ui i j p s h hi hjs b ju hb
 have ali:∀j s,j≠i->ps[j]? =some s->∀b,s.owns w (pv s (eN ps j) cs) b-> ¬q.owns w x b:=fun j s hj hjs b hb ju=>by
  rcases ajb b ju with h|h
  ·exact sym j s hj hjs b hb h
  ·exact h<|pJ.2 ⟨j,s,hjs,hb⟩
 refine⟨_,rfl,h1,MJ.2 ?_,fun b hb=>?_⟩
 ·intro j k s t hjk hj hk b hb ju;rcases at' j s hj with⟨rfl,rfl⟩|⟨nj,ej⟩<;>rcases at' k t hk with⟨rfl,rfl⟩|⟨nk,ek⟩
  ·omega
  ·rw[h2,h3] at hb;rw[(h4 k t nk ek).1,(h4 k t nk ek).2] at ju;exact ali k t nk ek b ju hb
  ·rw[h2,h3] at ju;rw[(h4 j s nj ej).1,(h4 j s nj ej).2] at hb;exact ali j s nj ej b hb ju
  ·rw[(h4 j s nj ej).1,(h4 j s nj ej).2] at hb;rw[(h4 k t nk ek).1,(h4 k t nk ek).2] at ju;exact ui j k s t hjk ej ek b hb ju
 ·obtain⟨j,s,hj,hb⟩:=pJ.1 hb;rcases at' j s hj with⟨rfl,rfl⟩|⟨nj,ej⟩
  ·rw[h2,h3] at hb;exact .inl hb
  ·rw[(h4 j s nj ej).1,(h4 j s nj ej).2] at hb;exact .inr ⟨pJ.2 ⟨j,s,ej,hb⟩,sym j s nj ej b hb⟩
def K8{ps:att lE}{cs:att arH}{p:lE}(h:OS B a w H ps cs)(hi:ps[i]? =some p):
  cs.take (eN ps i)++(pv p (eN ps i) cs).cells.toList++cs.drop (eN ps i+p.n)=cs:=by
 obtain⟨h1,_,_,h4⟩:=Cf h hi;rw[h4,<-iS,nR,zz,zz]
def Zj{dd:Nat}{s s' sd:bO}(hs:Sat w0 H0 N Γ a w H)(ht:(t,s)∈Γ)(vD:dd<N)(hne:dd≠t)(hl:dd∉sd.c6)
 (ui:s'.holds w0 (a.put (some dd) v) w H (bh a t))(hv:sd.holds w0 a w H v)(o1:∀b,s'.owns w (bh a t) b->s.owns w (bh a t) b)(o2:∀b,sd.owns w v b->s.owns w (bh a t) b)
 (o3:∀b,sd.owns w v b-> ¬s'.owns w (bh a t) b):Sat w0 H0 N ((dd,sd)::(t,s')::del dd (da t Γ)) (a.put (some dd) v) w H:=by
 have sub:∀q∈del dd (da t Γ),q∈Γ/\q.1≠t:=fun q hq=>bG q<|rF q hq
 have h1:Sat w0 H0 N ((dd,sd)::del dd (da t Γ)) (a.put (some dd) v) w H:=
  uD (hs.weaken fun q hq=>(sub q hq).1) vD vr hl hv fun b hb q hq Uh=>hs.sep _ ht q (sub q hq).1 (fun e=>(sub q hq).2 e.symm) b (o2 b hb) Uh
 have et:bh (a.put (some dd) v) t=bh a t:=lM hne;have ed:bh (a.put (some dd) v) dd=v:=ua (by rw[hs.sz];exact vD);have eo:∀q∈del dd (da t Γ),bh (a.put (some dd) v) q.1=bh a q.1:=fun q hq=>lM (WJ hq).1.symm
 have key:∀q∈(dd,sd)::del dd (da t Γ),∀b,s'.owns w (bh a t) b-> ¬q.2.owns w (bh (a.put (some dd) v) q.1) b:=fun q hq b hb Uh=>by
  rcases aY.1 hq with e|hq
  ·subst e;rw[ed] at Uh;exact o3 b Uh hb
  ·rw[eo q hq] at Uh;exact hs.sep _ ht q (sub q hq).1 (fun e=>(sub q hq).2 e.symm) b (o1 b hb) Uh
 have h2:Sat w0 H0 N ((t,s')::(dd,sd)::del dd (da t Γ)) (a.put (some dd) v) w H:=by
  refine⟨h1.nd,h1.sz,h1.below,h1.Jm,h1.sub,?_,?_,h1.gl⟩
  ·intro q hq;rcases aY.1 hq with e|hq
   ·subst e;simp only;rw[et];exact ui
   ·exact h1.holds q hq
  ·intro q hq r hr hn b hb ju;rcases aY.1 hq with e|hq<;>rcases aY.1 hr with e'|hr
   ·subst e;subst e';exact hn rfl
   ·subst e;simp only at hb;rw[et] at hb;exact key r hr b hb ju
   ·subst e';simp only at ju;rw[et] at ju;exact key q hq b ju hb
   ·exact h1.sep q hq r hr hn b hb ju
 refine h2.weaken fun q hq=>?_
 simp only[aY] at hq⊢;rcases hq with h|h|h
 ·exact .inr<| .inl h
 ·exact .inl h
 ·exact .inr<| .inr h
inductive nW(Γ:Ctx):Nat->Nat->Nat->Prop where
 |ptr {p t off:Nat} (h:look Γ p=some (.ptr t off)):nW Γ p t off
 |box {t:Nat} {T:ato} {g:Bool} {ps:att lE} (h:look Γ t=some (.vW T g ps)):nW Γ t t 0
def nW.ok{p:Nat}{ps:att lE}(h:nW Γ p t off)(ht:look Γ t=some (.vW T gg ps))(hs:Sat w0 H0 N Γ a w H):
  ∃b cs,bh a t= .pointer (some ⟨b,0,none⟩)/\a.eval (.tmp p)= .pointer (some ⟨b,off,none⟩)/\w.heap[b]? =some (.cells cs T (0,0))/\H b=none/\w0.nX b/\OS w0 a w H ps cs.toList/\KB w ps cs.toList/\ ¬lX w b ps cs.toList:=by
 obtain⟨b,cs,e,hb,hn,hm,ho,OV,hx⟩:=hs.holds _<|aF ht
 simp only at e;refine⟨b,cs,e,?_,hb,hn,hm,ho,OV,hx⟩;cases h with
 |ptr h=>
  obtain⟨b',e1,e2⟩:=hs.holds _<|aF h
  simp only at e1 e2;rw[e] at e1;cases e1;exact e2
 |box h=>exact e
def yJ{k:Nat}{T':ato}{ps:att lE}(h:look Γ t=some (.vW T' gg ps))(hf:vF P T k off=true):bR P Γ ⟨d,.fieldAddr T (.tmp t) k,ty,pos,af,g⟩ (.ptr t off):=
 bE fun _ _ _ a w _ hs=>by
  obtain⟨b,cs,e,_⟩:=hs.holds _<|aF h
  have e':a.eval (.tmp t)= .pointer (some ⟨b,0,none⟩):=e;exact⟨.pointer<|some ⟨b,0+off,none⟩,by simp[execOp,e',xh hf],⟨b,e,by simp⟩,rfl⟩
def Px{p:lE}{cs:awa arH}{E:ato}{w':arG}{ps:att lE}(hT:fM P T p.n p.agg=true)(hb:w.heap[b]? =some (.cells cs E (0,0)))(h:OS B a w' H ps cs.toList)(hi:ps[i]? =some p):
  (loadVar T ⟨b,eN ps i,none⟩).run P w= .ok (pv p (eN ps i) cs.toList) w:=by
 obtain⟨h1,_,_,_⟩:=Cf h hi;exact kv hT hb (by simpa using h1)
def abP{p:Nat}{T':ato}{ps:att lE}{τ:Ty}(hp:nW Γ p t off)(ht:look Γ t=some (.vW T' gg ps))(hi:ps[i]? =some (.val τ))(ho:eN ps i=off)(hT:fM P T τ.n τ.agg=true):
  bR P Γ ⟨d,.load T<| .tmp p,ty,pos,af,g⟩ (.val τ):=
 bE fun _ _ _ a w _ hs=>by
  obtain⟨b,cs,e,ep,hb,_,_,ij,_⟩:=hp.ok ht hs;subst ho;obtain⟨_,_,h3,_⟩:=Cf ij hi;refine⟨_,?_,h3,rfl⟩;simp[execOp,ep,Instr.loadAt,Instr.sureAddr,Px (p:= .val τ) hT hb ij hi]
def lE.sty:lE->bO
 | .buf E sz l=> .buf E sz l
 | .map K E Eb sz mB=> .Jl K E Eb sz mB
 |_=> .gone
def lE.Za:∀{p:lE},p.holds B a w H v->p.sty.holds B a w H v
 | .val _,_=>trivial
 | .any _ _,_=>trivial
 | .sm _,_=>trivial
 | .buf _ _ _,h=>h
 | .map _ _ _ _ _,h=>h
def lE.Dz:∀{p:lE},p.sty.owns w v b↔p.owns w v b
 | .val _=>Iff.rfl
 | .any _ _=>Iff.rfl
 | .sm _=>Iff.rfl
 | .buf _ _ _=>Iff.rfl
 | .map _ _ _ _ _=>Iff.rfl
def lE.Y9:∀{p:lE},p.sty.c6=[]
 | .val _=>rfl
 | .any _ _=>rfl
 | .sm _=>rfl
 | .buf _ _ _=>rfl
 | .map _ _ _ _ _=>rfl
def Ka(d:Nat):Bool->lE
 |true=> .sm d
 |false=> .any 1 false
end
end Trn
