/-
  Part of the proof of DrawViews.
-/
import Derived.Test.YtgmphoejohhmgaaGreatDoorEa
set_option maxRecDepth 100000
set_option maxHeartbeats 20000000
set_option linter.all false
open Go Go.RowKit Go.Proofs
namespace Trn
section
variable[D:DR]
variable{P:Program}{N:Nat}{ops:Array Oper}{Γ az:Ctx}{d:Option Tmp}{ty:TypeId}{pos:String}{af:Array Edge}{g:Option (Nat×Bool)}
variable{T:aq9}{x:arc}{l:ard Ty}{sz:Nat}{E:aq9}{t:Nat}{n:Int}{bytes:Nat}{T':aq9}{y:arc}{dd:Nat}{w:apT}{H:HV}{T2:aq9}{w0:aq P}{τ:Ty}{l2:ard Ty}{m:Int}{a:Act}{s:Nat}{H0:HV}{ps:ard (Nat×arc)}{l':ard Ty}{v:apU}
def da{k:IntKind}(hx:Arg Γ x (TI k m))(hy:Arg Γ y (TI k n)):bI P Γ ⟨d,.binOp .neq T x y T',ty,pos,af,g⟩ (.val<|aY<| !decide (m=n)):=
 lW hx hy fun H u v hu hv w _=>by
  cases hu;cases hv;refine⟨.bool<|m !=n,by simp[eqGuard,binOp,Op.intCmp],?_⟩;show _=_
  congr 1
def ahD{m n:ByteArray}(hx:Arg Γ x (UK m))(hy:Arg Γ y (UK n)):bI P Γ ⟨d,.binOp .eql T x y T',ty,pos,af,g⟩ (.val<|aY<|m.toList==n.toList):=
 lW hx hy fun H u v hu hv w _=>by
  cases hu;cases hv;exact⟨_,by simp[eqGuard,binOp,Op.stringOp],rfl⟩
def ahy{m n:ByteArray}(hx:Arg Γ x (UK m))(hy:Arg Γ y (UK n)):bI P Γ ⟨d,.binOp .neq T x y T',ty,pos,af,g⟩ (.val<|aY<| !(m.toList==n.toList)):=
 lW hx hy fun H u v hu hv w _=>by
  cases hu;cases hv;exact⟨_,by simp[eqGuard,binOp,Op.stringOp],rfl⟩
def Qu(P:arb)(T:aq9):Bool:=match P.underlying T with|some .bool=>true|_=>false
def ahE{m n:Bool}(hT:Qu P T=true)(hx:Arg Γ x (aY m))(hy:Arg Γ y (aY n)):bI P Γ ⟨d,.binOp .eql T x y T',ty,pos,af,g⟩ (.val<|aY<|m==n):=
 lW hx hy fun H u v hu hv w _=>by
  cases hu;cases hv;have hu:P.underlying T=some .bool:=by
   unfold Qu at hT;split at hT
   ·assumption
   ·cases hT
  refine⟨.bool<|m==n,?_,rfl⟩;have e:(Op.equal T (.bool m)<| .bool n).run P w= .ok (m==n) w:=run_equalIn_bool w 9999 T m n hu;simp[eqGuard,binOp,e]
def jF{b:Bool}(hx:Arg Γ x (aY b)):bI P Γ ⟨d,.unOp .not T x,ty,pos,af,g⟩ (.val<|aY<| !b):=
 bb fun _ _ _ a w H hs=>by
  have e:a.eval x= .bool b:=hx.ok hs;exact⟨_,by simp[execOp,e,Op.unary],rfl,rfl⟩
def abl{k:IntKind}(hx:Arg Γ x (TI k n)):bI P Γ ⟨d,.unOp .neg T x,ty,pos,af,g⟩ (.val<|TI k<|k.wrap<|0-n):=
 bb fun _ _ _ a w H hs=>by
  have e:a.eval x= .int k n:=hx.ok hs;exact⟨_,by simp[execOp,e,Op.unary,Op.intArith],rfl,rfl⟩
def CU(n:Int):Prop:= -9223372036854775808<=n/\n<=9223372036854775807
def wrap_i64(h:CU n):IntKind.i64.wrap n=n:=by
 exact IntWalk.i64_in n h
def U64(n:Int):Prop:=0<=n/\n<18446744073709551616
def wrap_u64(h:U64 n):IntKind.u64.wrap n=n:=by
 unfold U64 at h;exact IntWalk.u64_in n (by omega)
def ae3(hx:Arg Γ x (TI .i64 m))(hy:Arg Γ y (TI .i64 n))(h:CU (m+n)):bI P Γ ⟨d,.binOp .add T x y T',ty,pos,af,g⟩ (.val<|TI .i64<|m+n):=by
 have:=uB (P:=P) (d:=d) (ty:=ty) (pos:=pos) (af:=af) (g:=g) (T:=T) (T':=T') hx hy;rwa [wrap_i64 h] at this
def aeW(hx:Arg Γ x (TI .i64 m))(hy:Arg Γ y (TI .i64 n))(h:CU (m-n)):bI P Γ ⟨d,.binOp .sub T x y T',ty,pos,af,g⟩ (.val<|TI .i64<|m-n):=by
 have:=Ac (P:=P) (d:=d) (ty:=ty) (pos:=pos) (af:=af) (g:=g) (T:=T) (T':=T') hx hy;rwa [wrap_i64 h] at this
def aeZ(hx:Arg Γ x (TI .i64 m))(hy:Arg Γ y (TI .i64 n))(h:CU (m*n)):bI P Γ ⟨d,.binOp .mul T x y T',ty,pos,af,g⟩ (.val<|TI .i64<|m*n):=by
 have:=wx (P:=P) (d:=d) (ty:=ty) (pos:=pos) (af:=af) (g:=g) (T:=T) (T':=T') hx hy;rwa [wrap_i64 h] at this
def aeX(hx:Arg Γ x (TI .i64 m))(hy:Arg Γ y (TI .i64 n))(hn:n≠0)(h:CU (m.tdiv n)):bI P Γ ⟨d,.binOp .quo T x y T',ty,pos,af,g⟩ (.val<|TI .i64<|m.tdiv n):=by
 have:=abk (P:=P) (d:=d) (ty:=ty) (pos:=pos) (af:=af) (g:=g) (T:=T) (T':=T') hx hy hn;rwa [wrap_i64 h] at this
def aeY(hx:Arg Γ x (TI .i64 n))(h:CU (-n)):bI P Γ ⟨d,.unOp .neg T x,ty,pos,af,g⟩ (.val<|TI .i64<| -n):=by
 have:=abl (P:=P) (d:=d) (ty:=ty) (pos:=pos) (af:=af) (g:=g) (T:=T) hx;rwa [Int.zero_sub,wrap_i64 h] at this
def jX(P:arb)(T:aq9):Bool:=match P.underlying T with|some (.slice _)=>true|_=>false
def EN(h:jX P T=true):∃e,P.underlying T=some (.slice e):=by
 unfold jX at h;split at h
 ·rename_i e hu;exact⟨e,hu⟩
 ·cases h
def isStr(P:arb)(T:aq9):Bool:=match P.underlying T with|some .string=>true|_=>false
def Gm(h:isStr P T=true):P.underlying T=some .string:=by
 unfold isStr at h;split at h
 ·assumption
 ·cases h
def Gb{ty:aq9}(h:jX P T=true)(ad:atg Addr)(n c:Nat)(w:apT):(Builtin.len_ #[T] ty #[.slice ad n c]).run P w= .ok (.int .i64 n) w:=by
 obtain⟨e,hu⟩:=EN h;simp[Builtin.len_,aO hu,goInt]
def ahA(hT:jX P T=true)(hx:Arg Γ x (I8 l)):bI P Γ ⟨d,.call ⟨.builtin .len,#[x],#[T]⟩,ty,pos,af,g⟩ (.val<|TI .i64 l.length):=
 bb fun _ _ _ a w H hs=>by
  obtain⟨ad,cap,e,_⟩:=hx.ok hs;exact⟨_,by simp[execOp,resolve,invoke,builtin,e,Gb hT],rfl,rfl⟩
def VB{s:ByteArray}(hT:isStr P T=true)(hx:Arg Γ x (UK s)):bI P Γ ⟨d,.call ⟨.builtin .len,#[x],#[T]⟩,ty,pos,af,g⟩ (.val<|TI .i64 s.size):=
 bb fun _ _ _ a w H hs=>by
  have e:a.eval x= .string s:=hx.ok hs;exact⟨_,by simp[execOp,resolve,invoke,builtin,e,Builtin.len_,aO<|Gm hT,goInt],rfl,rfl⟩
def Yf{B:aq P}(h:(bL.buf E sz l).holds B a w H v):∃ad cap,v= .slice ad l.length cap:=by
 obtain⟨xs,⟨_,hc⟩,_⟩:=h;rcases hc with⟨e,hl⟩|⟨g,cap,cur,e,_⟩
 ·exact⟨none,0,by rw[e,hl]⟩
 ·exact⟨_,cap,e⟩
def Tv(hT:jX P T=true)(hs:look Γ s=some (.same t))(ht:look Γ t=some (.buf E sz l)):bI P Γ ⟨d,.call ⟨.builtin .len,#[.tmp s],#[T]⟩,ty,pos,af,g⟩ (.val<|TI .i64 l.length):=
 bb fun _ _ _ a w H cn=>by
  obtain⟨ad,cap,e⟩:=Yf<|cn.holds _<|ay ht
  have e2:aV a s=aV a t:=cn.holds _<|ay hs
  have e3:a.eval (.tmp s)= .slice ad l.length cap:=e2.trans e;exact⟨_,by simp[execOp,resolve,invoke,builtin,e3,Gb hT],rfl,rfl⟩
def eI:bI P Γ ⟨d,.move<| .tmp t,ty,pos,af,g⟩ (.same t):=
 bb fun _ _ _ a _ _ _=>⟨aV a t,rfl,rfl,rfl⟩
def Zg:bI P Γ ⟨d,.assign<| .const<| .slice none 0 0,ty,pos,af,g⟩ (.buf E sz []):=
 Zi fun w0 _ _ a w _ _=>⟨.slice none 0 0,rfl,⟨[],World.ownsRow_nil w _ _ _,rfl,fun b h=>by simp[Value.ownBlock] at h⟩,fun b h=>by simp[bL.owns,Value.ownBlock] at h⟩
open Classical in
def y8(hs:Sat w0 H0 N Γ a w H){s:bL}(ht:(t,s)∈Γ)(S:Nat->Prop)(hS:∀b,S b->s.owns w (aV a t) b/\w0.mg b)
 (hv:τ.ok (fun r=>if S r then w.heap[r]? else H r) (aV a t)):Sat w0 H0 N ((t,.val τ)::bN t Γ) a w (fun r=>if S r then w.heap[r]? else H r):=by
 have low:∀b,S b->b<w.heap.size/\H b=none/\∃o,w.heap[b]? =some o/\Ns o:=fun b h=>bL.lE (hs.holds _ ht) (hS b h).1
 have hle:HV.le H (fun r=>if S r then w.heap[r]? else H r):=by
  intro r o h;by_cases e:S r
  ·rw[(low r e).2.1] at h;cases h
  ·simp[e,h]
 have acb:∀q∈bN t Γ,∀b,q.2.owns w (aV a q.1) b-> ¬S b:=by
  intro q hq b Uc e;exact hs.sep _ ht q (bG q hq).1 (fun e=>(bG q hq).2 e.symm) b (hS b e).1 Uc
 have kO:Sat w0 H0 N (bN t Γ) a w (fun r=>if S r then w.heap[r]? else H r):=by
  refine AS (ds:=a.defers) hs hs.below (bC _) ?_ (bC _) hle ?_ ?_ ?_ ?_
  ·intro _ r hr hx;have: ¬S r:=fun e=>by
    rcases(hS r e).2 with h|h
    ·omega
    ·exact hx h
   simp[this]
  ·intro r o h;by_cases e:S r
   ·simpa[e] using h
   ·simp only[e,if_false] at h;exact hs.sub r o h
  ·intro _ b _ hb;have: ¬S b:=fun e=>by have:=aq.xp (hS b e).2;omega
   simp[this]
  ·intro p hp;exact⟨(bG p hp).1,fun b hb=>⟨rfl,by simp[acb p hp b hb]⟩⟩
  ·refine hs.nd.kept fun D _ h1 h2=>⟨h1,?_⟩
   have: ¬S D:=fun e=>by
    obtain⟨_,_,o,ho,V4⟩:=low D e;rw[h1] at ho;cases ho;exact V4
   simp[this,h2]
 refine⟨kO.nd,kO.sz,kO.below,kO.I7,kO.sub,?_,?_,kO.gl⟩
 ·intro p hp;rcases bM.1 hp with e|hp
  ·subst e;exact hv
  ·exact kO.holds p hp
 ·intro p hp q hq hne b hb ji;rcases bM.1 hp with e|hp
  ·subst e;exact hb
  ·rcases bM.1 hq with e|hq
   ·subst e;exact ji
   ·exact kO.sep p hp q hq hne b hb ji
def aeA(hs:Sat w0 H0 N Γ a w H)(ht:look Γ t=some (.buf E sz l)):∃H',Sat w0 H0 N ((t,.val<|I8 l)::bN t Γ) a w H':=by
 have hb:=hs.holds _<|ay ht
 obtain⟨xs,hr,ho,hn⟩:=hb;refine⟨_,y8 hs (ay ht) (fun b=>(aV a t).ownBlock=some b) (fun b h=>⟨h,(hn b h).2⟩) ?_⟩;refine Cl (a:=a) ⟨xs,hr,ho,hn⟩ ?_ (fun b hb _ o hbo=>by simp[hb,hbo]);intro r o h;by_cases e:(aV a t).ownBlock=some r
 ·rw[(hn r e).1] at h;cases h
 ·simp[e,h]
def aeS(ht:look Γ t=some (.buf E sz l)):qj w0 N Γ ((t,.val<|I8 l)::bN t Γ):=fun _ _ _ _ hs=>aeA hs ht
def aaX(hs:Sat w0 H0 N Γ a w H)(ht:look Γ t=some (.own T τ)):∃H',Sat w0 H0 N ((t,.val<|nm τ)::bN t Γ) a w H':=by
 obtain⟨b,x,e,hb,hx,hH,hB⟩:=hs.holds _<|ay ht
 simp only at e;refine⟨_,y8 hs (ay ht) (fun c=>c=b) (fun c h=>by subst h;exact⟨⟨_,e,rfl⟩,hB⟩) ?_⟩;have nP:=τ.shape hx;refine⟨b,0,x.cells,T,(0,0),e,by simp[hb],by rw[nP.size];omega,?_⟩;rw[Jc nP.size,<-nP.eq];refine τ.mono ?_ hx;intro r o h;by_cases e:r=b
 ·subst e;rw[hH] at h;cases h
 ·simp[e,h]
def pT(ht:look Γ t=some (.own T τ)):qj w0 N Γ ((t,.val<|nm τ)::bN t Γ):=fun _ _ _ _ hs=>aaX hs ht
def qe(P:arb)(T:aq9)(E:aq9)(sz bytes:Nat):Bool:=
 match P.underlying T with
 |some (.slice e)=>Nat.beq e E&&(match P.info? e with
  |some i=>Nat.beq i.size sz&&Nat.beq i.bytes bytes&&(match i.zero with|some z=>Nat.beq z.cells.size sz|none=>false)&&Nat.ble 1 sz
  |none=>false)
 |_=>false
def UG(h:qe P T E sz bytes=true):∃i z,P.underlying T=some (.slice E)/\P.info? E=some i/\i.zero=some z/\i.size=sz/\i.bytes=bytes/\z.cells.size=sz/\0<sz:=by
 unfold qe at h;split at h
 ·rename_i e hu;simp only[bV] at h;obtain⟨h1,h2⟩:=h;have h1:=fB h1;subst h1;split at h2
  ·rename_i i hi;simp only[bV] at h2;obtain⟨⟨⟨h3,h4⟩,h5⟩,h6⟩:=h2;split at h5
   ·rename_i z hz;exact⟨i,z,hu,hi,hz,fB h3,fB h4,fB h5,gj h6⟩
   ·cases h5
  ·cases h2
 ·cases h
def Dv(hT:qe P T E sz bytes=true){B:Nat}{n:Nat}{xs:ard apU}(hown:w.ownsRow B E sz v n xs)(hB:B<=w.heap.size)
 {ad:atg Addr}{m c:Nat}{news:ard apU}(hl:news.length=m*sz)(akT:∀j u,news[j]? =some u->∃x,ad=some x/\w.cell? (x.add j)=some u)(h1:∀u∈news,u.oneCell'=true)(had:ad=none->m=0)
 (Lh:n+m<=maxLen)(rX:(n+m)*bytes<=140737488355328)(ty:aq9):
  ∃v' w',(Builtin.append_ #[T,T] ty #[v,.slice ad m c]).run P w= .ok v' w'/\w'.ownsRow B E sz v' (n+m) (xs++news)/\zM w w' v.ownBlock/\∀b,v'.ownBlock=some b->v.ownBlock=some b\/w.heap.size<=b:=by
 obtain⟨i,z,hu,hi,hz,hsz,hby,hzs,hpos⟩:=UG hT;cases ad with
 |none=>
  have hm:=had rfl;subst hm;have hn:news=[]:=rT (by simpa using hl);subst hn;refine⟨v,w,?_,by simpa using hown,⟨⟨rfl,rfl,rfl,bC _,fun _ _ _=>rfl⟩,bC _⟩,fun b hb=> .inl hb⟩;rcases hown.2 with⟨rfl,rfl⟩|⟨g,cap,cur,rfl,hbg,hg,hnc,_⟩
  ·simp[Builtin.append_,aO hu,Go.sizeOf,typeInfo,program,Sem.run,hi,Builtin.lenOf,Builtin.firstCells]
  ·simp[Builtin.append_,aO hu,Go.sizeOf,typeInfo,program,Sem.run,hi,Builtin.lenOf,Builtin.firstCells,hnc,storeCells]
 |some ad=>
  have NW:∀j u,news[j]? =some u->w.cell? (ad.add j)=some u:=fun j u h=>by
   obtain⟨x,e,hx⟩:=akT j u h;cases e;exact hx
  obtain⟨v',w',hr,h2,h3,h4⟩:=run_append_own (P:=P) w B T ty E i z sz bytes hu hi hz hsz hby hzs hpos v n xs hown ad m c news hl NW h1 Lh rX hB;have key:w.drawn<=w'.drawn/\∀b,v'.ownBlock=some b->v.ownBlock=some b\/w.heap.size<=b:=by
   subst hsz;subst hby;rcases hown.2 with⟨rfl,rfl⟩|⟨g,cap,cur,rfl,hbg,hg,hnc,hcm,hcs,htake⟩
   ·by_cases hm:m=0
    ·subst hm;have hf:=run_firstCells_some (P:=P) w i.size 0 ad 0 c news hl NW;have JO:(Builtin.append_ #[T,T] ty #[.slice none 0 0,.slice (some ad) 0 c]).run P w= .ok (.slice none 0 0) w:=by
      have hn0:news=[]:=rT (by simpa using hl);subst hn0;simp only[Builtin.firstCells] at hf;simp[Builtin.append_,aO hu,Go.sizeOf,typeInfo,program,Sem.run,hi,Builtin.lenOf,Builtin.firstCells,loadCells,loadCellsFrom]
     rw[hr] at JO;cases JO;exact⟨bC _,fun b hb=>by simp[Value.ownBlock] at hb⟩
    ·have aiC:(m:Int)<=9223372036854775807:=by simp only[maxLen] at Lh;omega
     have JO:=run_append_nil (P:=P) (w:=w) T ty E i z hu hi hz ad m c news hl NW (by omega) aiC (by rw[vy] at rX;omega);rw[hr] at JO;cases JO;refine⟨vx _,fun b hb=>?_⟩;simp[Value.ownBlock] at hb;exact .inr (by omega)
   ·by_cases Kz:n+m<=cap
    ·have afz:n*i.size+news.length<=cur.size:=by rw[hl,hcs,<-om];exact mI _ Kz
     have JO:=run_append_room (P:=P) w T ty E i hu hi g n cap cur hg ad m c news hl NW h1 Kz afz;rw[hr] at JO;cases JO;exact⟨bC _,fun b hb=> .inl hb⟩
    ·have holds:∀j u,xs[j]? =some u->w.cell? ((⟨g,0,none⟩:Addr).add j)=some u:=hown.cells (g:=g) rfl;have aiC:((n+m:Nat):Int)<=9223372036854775807:=by simp only[maxLen] at Lh;omega
     have JO:=run_append_grow (P:=P) w T ty E i z hu hi hz ⟨g,0,none⟩ n cap xs hown.1 holds ad m c news hl NW (by omega) aiC (growslice_fits (by omega) rX);rw[hr] at JO;cases JO;refine⟨vx _,fun b hb=>?_⟩;simp[Value.ownBlock] at hb;exact .inr (by omega)
  exact⟨v',w',hr,h2,⟨h3,GN.of key.1⟩,key.2⟩
def IY{ty:aq9}(h1:jX P T=true)(h2:jX P T2=true)(args:ath apU)(w:apT):(Builtin.append_ #[T,T2] ty args).run P w=(Builtin.append_ #[T,T] ty args).run P w:=by
 obtain⟨e1,u1⟩:=EN h1;obtain⟨e2,u2⟩:=EN h2;unfold Builtin.append_;have g0:(#[T,T2]:ath aq9)[0]? =some T:=rfl;have g1:(#[T,T2]:ath aq9)[1]? =some T2:=rfl;have g2:(#[T,T]:ath aq9)[0]? =some T:=rfl;have g3:(#[T,T]:ath aq9)[1]? =some T:=rfl;simp only[g0,g1,g2,g3];cases args[0]? with
 |none=>rfl
 |some a0=>cases args[1]? with
  |none=>rfl
  |some a1=>
   simp only[eN,aO u1,eE];cases a0<;>try rfl
   simp only[eN,aO u1,aO u2,eE,ot]
def UH(h:qe P T E sz bytes=true):jX P T=true:=by
 obtain⟨i,z,hu,_⟩:=UG h;simp[jX,hu]
def S6(sub:∀r o,H r=some o->w.heap[r]? =some o)(h:(I8 l).ok H v):∃ad cap news,v= .slice ad l.length cap/\uD H l news/\(∀j u,news[j]? =some u->∃x,ad=some x/\w.cell? (x.add j)=some u)/\(ad=none->l.length=0):=by
 obtain⟨ad,cap,e,_,hx⟩:=h;by_cases hl:l=[]
 ·subst hl;exact⟨ad,cap,[],e,rfl,fun j u h=>by simp at h,fun _=>rfl⟩
 ·obtain⟨b,off,cs,E,fr,e1,hb,hsz,ho⟩:=hx hl;refine⟨ad,cap,_,e,ho,?_,fun e=>by rw[e1] at e;cases e⟩;intro j u hj;refine⟨⟨b,off,none⟩,e1,?_⟩;rw[addr_add];rw[Ao] at hj;split at hj
  ·simp at hj;simp[World.cell?,sub _ _ hb,hj]
  ·cases hj
def M8{c8:Ctx}(bO:∀q∈c8,q∈Γ)(N4:jX P T2=true)(hs:look c8 s=some (.same t))(ht:look c8 t=some (.buf E sz l))(hx:Arg c8 x (I8 l2))(hT:qe P T E sz bytes=true)(hu:GK sz l2)
 (Lh:l.length+l2.length<=maxLen)(rX:(l.length+l2.length)*bytes<=140737488355328)(na:dd<N):
  Step P N ops ⟨some dd,.call ⟨.builtin .append,#[.tmp s,x],#[T,T2]⟩,ty,pos,af,none⟩ Γ ((dd,.buf E sz<|l++l2)::del dd (bN t Γ)):=by
 intro w0 H0 a w H cn K Q k;simp only[Region.wanted,if_true];have hb:=cn.holds _ (bO _<|ay ht);obtain⟨xs,hr,ho,hn⟩:=hb;have e2:aV a s=aV a t:=cn.holds _ (bO _<|ay hs);obtain⟨ad,cap,news,ex,XO,hc,acd⟩:=S6 cn.sub<|hx.ok<|cn.weaken bO
 have hlen:news.length=l2.length*sz:=by rw[nB XO,hZ hu]
 obtain⟨v',w',qb,h2,h3,h4⟩:=Dv hT hr (jc _) (c:=cap) hlen hc (vT XO) acd Lh rX ty;unfold Oper.wp;have er:(execOp a.eval ⟨some dd,.call ⟨.builtin .append,#[.tmp s,x],#[T,T2]⟩,ty,pos,af,none⟩).run P w= .ok (.value v') w':=by
  have e3:a.eval (.tmp s)=aV a t:=e2;simp[execOp,resolve,invoke,builtin,e3,ex,IY (UH hT) N4,qb]
 rw[er,tx];refine k _ w' H (AR cn (bO _<|ay ht) h3 (fun c hc=>⟨hc,(hn c hc).2⟩) na (by simp[bL.bH]) ⟨xs++news,by simpa using h2,uC ho XO,fun b hb=>?_⟩ h4);rcases h4 b hb with h|h
 ·exact hn b h
 ·refine⟨?_,.inl<|fc cn.below.size h⟩;cases hh:H b with
  |none=>rfl
  |some o=>have:=wU cn.sub hh;omega
def YS(N4:jX P T2=true)(hs:look Γ s=some (.same t))(ht:look Γ t=some (.buf E sz l))(hx:Arg Γ x (I8 l2))(hT:qe P T E sz bytes=true)(hu:GK sz l2)
 (Lh:l.length+l2.length<=maxLen)(rX:(l.length+l2.length)*bytes<=140737488355328)(na:dd<N):
  Step P N ops ⟨some dd,.call ⟨.builtin .append,#[.tmp s,x],#[T,T2]⟩,ty,pos,af,none⟩ Γ ((dd,.buf E sz<|l++l2)::del dd (bN t Γ)):=M8 (fun _ h=>h) N4 hs ht hx hT hu Lh rX na
def ZU(N4:jX P T2=true)(hs:look Γ s=some (.same t))(ht:look Γ t=some (.buf E sz l))(hx:Arg Γ x (I8 l2))(hT:qe P T E sz bytes=true)(hu:GK sz l2)
 (Lh:l.length+l2.length<=maxLen)(rX:(l.length+l2.length)*bytes<=140737488355328)(na:dd<N):
  Py P N ops Γ ⟨some dd,.call ⟨.builtin .append,#[.tmp s,x],#[T,T2]⟩,ty,pos,af,none⟩ t dd (.buf E sz<|l++l2):=fun _ bO=>M8 bO N4 hs ht hx hT hu Lh rX na
def Ka{c8:Ctx}(bO:∀q∈c8,q∈Γ)(N4:jX P T2=true)(ht:look c8 t=some (.buf E sz l))(hx:Arg c8 x (I8 l2))(hT:qe P T E sz bytes=true)(hu:GK sz l2)
 (Lh:l.length+l2.length<=maxLen)(rX:(l.length+l2.length)*bytes<=140737488355328)(na:dd<N):
  Step P N ops ⟨some dd,.call ⟨.builtin .append,#[.tmp t,x],#[T,T2]⟩,ty,pos,af,none⟩ Γ ((dd,.buf E sz<|l++l2)::del dd (bN t Γ)):=by
 intro w0 H0 a w H cn K Q k;simp only[Region.wanted,if_true];have hb:=cn.holds _ (bO _<|ay ht);obtain⟨xs,hr,ho,hn⟩:=hb;obtain⟨ad,cap,news,ex,XO,hc,acd⟩:=S6 cn.sub<|hx.ok<|cn.weaken bO
 have hlen:news.length=l2.length*sz:=by rw[nB XO,hZ hu]
 obtain⟨v',w',qb,h2,h3,h4⟩:=Dv hT hr (jc _) (c:=cap) hlen hc (vT XO) acd Lh rX ty;unfold Oper.wp;have er:(execOp a.eval ⟨some dd,.call ⟨.builtin .append,#[.tmp t,x],#[T,T2]⟩,ty,pos,af,none⟩).run P w= .ok (.value v') w':=by
  have e3:a.eval (.tmp t)=aV a t:=rfl;simp[execOp,resolve,invoke,builtin,e3,ex,IY (UH hT) N4,qb]
 rw[er,tx];refine k _ w' H (AR cn (bO _<|ay ht) h3 (fun c hc=>⟨hc,(hn c hc).2⟩) na (by simp[bL.bH]) ⟨xs++news,by simpa using h2,uC ho XO,fun b hb=>?_⟩ h4);rcases h4 b hb with h|h
 ·exact hn b h
 ·refine⟨?_,.inl<|fc cn.below.size h⟩;cases hh:H b with
  |none=>rfl
  |some o=>have:=wU cn.sub hh;omega
def Vf(N4:jX P T2=true)(ht:look Γ t=some (.buf E sz l))(hx:Arg Γ x (I8 l2))(hT:qe P T E sz bytes=true)(hu:GK sz l2)
 (Lh:l.length+l2.length<=maxLen)(rX:(l.length+l2.length)*bytes<=140737488355328)(na:dd<N):
  Step P N ops ⟨some dd,.call ⟨.builtin .append,#[.tmp t,x],#[T,T2]⟩,ty,pos,af,none⟩ Γ ((dd,.buf E sz<|l++l2)::del dd (bN t Γ)):=Ka (fun _ h=>h) N4 ht hx hT hu Lh rX na
def Wf(N4:jX P T2=true)(ht:look Γ t=some (.buf E sz l))(hx:Arg Γ x (I8 l2))(hT:qe P T E sz bytes=true)(hu:GK sz l2)
 (Lh:l.length+l2.length<=maxLen)(rX:(l.length+l2.length)*bytes<=140737488355328)(na:dd<N):
  Py P N ops Γ ⟨some dd,.call ⟨.builtin .append,#[.tmp t,x],#[T,T2]⟩,ty,pos,af,none⟩ t dd (.buf E sz<|l++l2):=fun _ bO=>Ka bO N4 ht hx hT hu Lh rX na
def tO{s:bL}(ht:look Γ t=some s)(hl:s.bH=[])(na:dd<N)(o:Op)(ho:o= .assign (.tmp t)\/o= .move (.tmp t)):
  Py P N ops Γ ⟨some dd,o,ty,pos,af,none⟩ t dd s:=by
 intro sI bO w0 H0 a w H cn K Q k;simp only[Region.wanted,if_true];have er:(execOp a.eval ⟨some dd,o,ty,pos,af,none⟩).run P w= .ok (.value<|aV a t) w:=by rcases ho with rfl|rfl<;>rfl
 unfold Oper.wp;rw[er,tx];exact k _ w H (AR cn (bO _<|ay ht) (Cg w) (fun _ e=>by cases e) na (by rw[hl];simp) (cn.holds _<|bO _<|ay ht) fun _ h=> .inl h)
def bt{s:bL}(ht:look Γ t=some s)(hl:s.bH=[])(na:dd<N)(o:Op)(ho:o= .assign (.tmp t)\/o= .move (.tmp t)):
  Step P N ops ⟨some dd,o,ty,pos,af,none⟩ Γ ((dd,s)::del dd (bN t Γ)):=by
 intro w0 H0 a w H cn K Q k;simp only[Region.wanted,if_true];have er:(execOp a.eval ⟨some dd,o,ty,pos,af,none⟩).run P w= .ok (.value<|aV a t) w:=by rcases ho with rfl|rfl<;>rfl
 unfold Oper.wp;rw[er,tx];exact k _ w H (AR cn (ay ht) (Cg w) (fun _ e=>by cases e) na (by rw[hl];simp) (cn.holds _<|ay ht) fun _ h=> .inl h)
def bU{a b:Nat}(h:Nat.blt a b=true):a<b:=gj h
def iv(n:Nat)(agg:Bool):Ty where
 n:=n
 agg:=agg
 ok:=fun _ v=>Shape n agg v
 mono:=fun _ h=>h
 shape:=fun h=>h
def ZW(cs0:ath apU)(off:Nat):∀(l:ard apU) (k:Nat),(off+k+l.length<=cs0.size)->
  (l.zipIdx k).foldl (fun cs (x:apU×Nat)=>cs.setIfInBounds (off+x.2) x.1) cs0=(cs0.toList.take (off+k)++l++cs0.toList.drop (off+k+l.length)).toArray:=by
 intro l
 induction l generalizing cs0 with
 |nil=>intro k _;simp
 |cons v l ih=>
  intro k hk;simp only[List.length_cons] at hk;simp only[List.zipIdx_cons,It];rw[ih _ (k+1) (by simp;omega)]
  congr 1
  simp only[L9,List.length_cons];have hlt:off+k<cs0.toList.length:=by simp;omega
  have h1:List.take (off+(k+1)) (cs0.toList.set (off+k) v)=List.take (off+k) cs0.toList++[v]:=by
   rw[<-tu,List.take_succ_eq_append_getElem (by simpa using hlt)];simp[List.take_set];rw[List.set_eq_of_length_le (by simp;omega)]
  have h2:List.drop (off+(k+1)+l.length) (cs0.toList.set (off+k) v)=List.drop (off+k+(l.length+1)) cs0.toList:=by
   rw[LY (by omega)]
   congr 1;omega
  rw[h1,h2];simp
inductive iy(P:arb)(Γ:Ctx):ard (Nat×arc)->ard Ty->ard Ty->Prop where
 |nil {l:ard Ty}:iy P Γ [] l l
 |cons {i:Nat} {x:arc} {τ σ:Ty} {ps:ard (Nat×arc)} {l l':ard Ty} (hx:Arg Γ x σ) (hi:l[i]? =some τ) (hn:σ.n=τ.n) (r:iy P Γ ps (l.set i σ) l'):iy P Γ ((i,x)::ps) l l'
def p5(l:ard Ty):ard Nat:=l.map (·.n)
def TD{i:Nat}{σ:Ty}(h:l[i]? =some τ)(hn:σ.n=τ.n):p5 (l.set i σ)=p5 l:=by
 simp only[p5,xz];apply Ix;intro j;rw[List.getElem?_set];split
 ·rename_i e;subst e;split
  ·simp[h,hn]
  ·rename_i hlt;have:=(iG.1 h).1;simp at hlt;omega
 ·rfl
def iy.fill{ps:ard (Nat×arc)}{l l':ard Ty}(h:iy P Γ ps l l'){place:Nat->atg (Nat×Nat)}(Pk:∀i n,(p5 l)[i]? =some n->place i=some (((p5 l).take i).sum,n))
  {w0:aq P}{H0:HV}{N:Nat}{a:Act}{w:apT}{H:HV}(hs:Sat w0 H0 N Γ a w H):∀{cells:ath apU},uD H l cells.toList->
   ∃kH,Instr.fill place cells (ps.map fun p=>(p.1,a.eval p.2))=some kH/\uD H l' kH.toList:=by
 induction h with
 |nil=>exact fun h=>⟨_,rfl,h⟩
 | @cons i x τ σ ps l l' hx hi hn r ih=>
  intro cells gq;have hv:=hx.ok hs;have hsz:=(σ.shape hv).size;obtain⟨p1,_⟩:=nL gq hi;have tX:=BH gq hi hn hv;have ab9:=Pk i τ.n (by simp[p5,hi]);have an2:((p5 l).take i).sum=cw (l.take i):=by simp[p5,cw,List.map_take]
  rw[an2] at ab9;have hlen:cells.toList.length=cells.size:=by simp
  rw[hlen] at p1;have agK:=ZW cells (cw<|l.take i) (a.eval x).cells.toList 0 (by simp;omega);simp only[tG,gi] at agK;have hnn:(a.eval x).cells.size=τ.n:=by omega
  obtain⟨kH,h1,h2⟩:=ih (by rw[TD hi hn];exact Pk) (cells:=(cells.toList.take (cw<|l.take i)++(a.eval x).cells.toList++cells.toList.drop (cw (l.take i)+(a.eval x).cells.size)).toArray) (by rw[hnn];simpa using tX);refine⟨kH,?_,h2⟩;simp only[tH,Instr.fill,ab9];rw[if_neg (by simp;omega)];have e:Array.foldl (fun cs (x:apU×Nat)=>cs.setIfInBounds (cw (List.take i l)+x.snd) x.fst) cells (a.eval x).cells.zipIdx=(List.take (cw<|List.take i l) cells.toList++(a.eval x).cells.toList++List.drop (cw (List.take i l)+(a.eval x).cells.size) cells.toList).toArray:=by
   rw[<-agK,<-Array.foldl_toList,Array.toList_zipIdx]
  rw[<-h1]
  congr 1
def iX(P:arb)(T:aq9)(ns:ard Nat):Bool:=
 match P.underlying T with
 |some (.struct fs)=>fs.toList.map (·.offset)==(List.range ns.length).map (fun i=>(ns.take i).sum)&&(fs.toList.map (fun f=>(P.info? f.type).map (·.size))==ns.map some)
 |_=>false
def VJ{fs:ard Field}:∀{ns:ard Nat},fs.map (fun f=>(P.info? f.type).map (·.size))=ns.map some->∀w,(fs.mapM fun f=>do pure (f.offset,<-Go.sizeOf f.type):Sem (ard<|Nat×Nat)).run P w= .ok ((fs.map (·.offset)).zip ns) w:=by
 induction fs with
 |nil=>intro ns h w;cases ns<;>simp_all
 |cons f fs ih=>
  intro ns h w;cases ns with
  |nil=>simp at h
  |cons n ns=>
   simp only[tH,List.cons.injEq] at h;obtain⟨h1,h2⟩:=h;cases hi:P.info? f.type with
   |none=>rw[hi] at h1;cases h1
   |some i=>
    rw[hi] at h1;simp at h1;have:=ih h2 w;simp only[List.mapM_cons,eN,Go.sizeOf,typeInfo,program,Sem.run,hi,ot,eE,h1];simp only[Go.sizeOf,typeInfo,program] at this;rw[this];simp
def DB(hz:bJ P T (fJ l))(hT:iX P T (p5 l)=true)(hp:iy P Γ ps l l'):bI P Γ ⟨d,.build T ps.toArray,ty,pos,af,g⟩ (.val<|fJ l'):=
 bb fun w0 H0 N a w H hs=>by
  obtain⟨z,Sr,UT⟩:=hz.run w;obtain⟨zc,rfl,ahX⟩:=UT H;unfold iX at hT;split at hT
  ·rename_i fs hu;simp only[bV,xw] at hT;obtain⟨h1,h2⟩:=hT;have hm:=VJ h2 w;have Pk:∀i n,(p5 l)[i]? =some n->((fs.toList.map (·.offset)).zip<|p5 l).toArray[i]? =some (((p5 l).take i).sum,n):=by
    intro i n hi;have hlt:=(iG.1 hi).1;simp only[List.getElem?_toArray,h1];rw[L8];refine⟨?_,hi⟩;simp[hlt]
   obtain⟨kH,hf,gq⟩:=hp.fill Pk hs ahX;have hmA:(fs.mapM fun f=>do pure (f.offset,<-Go.sizeOf f.type):Sem (ath<|Nat×Nat)).run P w= .ok ((fs.toList.map (·.offset)).zip<|p5 l).toArray w:=by
    have e:(fs.mapM fun f=>do pure (f.offset,<-Go.sizeOf f.type):Sem (ath<|Nat×Nat))=List.toArray<$>(fs.toList.mapM fun f=>do pure (f.offset,<-Go.sizeOf f.type)):=by
     rw[<-List.mapM_toArray]
    rw[e,Sem.run_map,hm]
    rfl
   refine⟨.agg kH,?_,⟨kH,rfl,gq⟩,rfl⟩;have e2:(ps.toArray.map fun(i,x)=>(i,a.eval x)).toList=ps.map fun p=>(p.1,a.eval p.2):=by simp
   have hf':Instr.fill (fun i=>((fs.toList.map (·.offset)).zip<|p5 l).toArray[i]?) zc (ps.toArray.map fun(i,x)=>(i,a.eval x)).toList=some kH:=by rw[e2];exact hf
   simp only[execOp,Instr.build,eN,Sr,eE,aO hu,Value.cells];rw[hmA];simp only[eE];rw[hf'];simp
  ·cases hT
def vR{n:Nat}(hz:bJ P T (fJ l))(hT:yP P T n sz=true)(hu:GK sz l)(hp:iy P Γ ps l l'):bI P Γ ⟨d,.build T ps.toArray,ty,pos,af,g⟩ (.val<|fJ l'):=
 bb fun w0 H0 N a w H hs=>by
  obtain⟨z,Sr,UT⟩:=hz.run w;obtain⟨zc,rfl,ahX⟩:=UT H;obtain⟨e,i,hue,hi,hsz⟩:=OC hT;have Pk:∀i n,(p5 l)[i]? =some n->(fun i=>some (i*sz,sz)) i=some (((p5 l).take i).sum,n):=by
   intro i n hi;have hlt:=(iG.1 hi).1;simp[p5] at hlt;simp only[p5,mH,Option.map_eq_some_iff] at hi;obtain⟨τ,hτ,rfl⟩:=hi;have h1:=hu τ<|B6 hτ
   have h2:=hZ<|hu.take i
   simp only[cw,List.length_take,fA<|Ex hlt] at h2;simp[p5,<-List.map_take,h1,h2]
  obtain⟨kH,hf,gq⟩:=hp.fill Pk hs ahX;refine⟨.agg kH,?_,⟨kH,rfl,gq⟩,rfl⟩;have e2:(ps.toArray.map fun(i,x)=>(i,a.eval x)).toList=ps.map fun p=>(p.1,a.eval p.2):=by simp
  have hf':Instr.fill (fun i=>some (i*sz,sz)) zc (ps.toArray.map fun(i,x)=>(i,a.eval x)).toList=some kH:=by rw[e2];exact hf
  have wa:(Go.sizeOf e).run P w= .ok sz w:=by simp[Go.sizeOf,typeInfo,program,Sem.run,hi,hsz]
  simp only[execOp,Instr.build,eN,Sr,eE,aO hue,Value.cells,wa];rw[hf'];simp
def Mn{z:apU}(hz:τ.ok H z)(n:Nat):uD H (List.replicate n τ) ((Array.range<|n*τ.n).map<|fun i=>z.cells[i%z.cells.size]!).toList:=by
 have hs:=τ.shape hz
 induction n with
 |zero=>simp[uD]
 |succ n ih=>
  have e:((Array.range<|(n+1)*τ.n).map<|fun i=>z.cells[i%z.cells.size]!).toList=((Array.range<|n*τ.n).map<|fun i=>z.cells[i%z.cells.size]!).toList++z.cells.toList:=by
   simp only[Array.toList_map,Array.toList_range];rw[Nat.succ_mul,List.range_add,List.map_append,Io]
   congr 1
   apply List.ext_getElem
   ·simp[hs.size]
   ·intro i h1 h2;simp at h2;simp only[List.getElem_map,List.getElem_range,Function.comp,Array.getElem_toList];rw[hs.size,BU,Nat.add_mul_mod_self_right,zC (by rw[<-hs.size];exact h2)];rw[oq]
  rw[e,List.replicate_succ'];exact uC ih ⟨z,[],by simp,hz,rfl⟩
def oU(P:arb)(T:aq9)(E:aq9)(sz:Nat):Bool:=
 match P.underlying T with
 |some (.slice e)=>Nat.beq e E&&(match P.info? e with|some i=>Nat.beq i.size sz|none=>false)
 |_=>false
def Ae{n:Nat}(hz:bJ P E τ)(hT:oU P T E sz=true)(hsz:τ.n=sz)(hpos:Nat.blt 0 (n*sz)=true)(hn:Nat.ble (n*sz) 16777216=true)(hp:iy P Γ ps (List.replicate n τ) l')(hl:l'.length=n):
  bI P Γ ⟨d,.buildSlice T n ps.toArray,ty,pos,af,g⟩ (.val<|I8 l'):=
 iN fun w0 H0 N a w H hs=>by
  obtain⟨z,Sr,UT⟩:=hz.run w;have agE:=bU hpos;unfold oU at hT;split at hT
  ·rename_i e hu;simp only[bV] at hT;obtain⟨h1,h2⟩:=hT;have h1:=fB h1;subst h1;split at h2
   ·rename_i i hi;have h2:=fB h2;have hz0:=Mn (UT H) n;rw[hsz] at hz0;have Pk:∀i m,(p5<|List.replicate n τ)[i]? =some m->(fun i=>some (i*sz,sz)) i=some (((p5<|List.replicate n τ).take i).sum,m):=by
     intro i m hi;simp only[p5,LX,List.getElem?_replicate] at hi;split at hi
     ·rename_i hlt;simp at hi;subst hi;simp[p5,LX,Iz,hsz,fA<|Ex hlt]
     ·cases hi
    obtain⟨kH,hf,gq⟩:=hp.fill Pk hs hz0;have e2:(ps.toArray.map fun(i,x)=>(i,a.eval x)).toList=ps.map fun p=>(p.1,a.eval p.2):=by simp
    have wa:(Go.sizeOf e).run P w= .ok sz w:=by simp[Go.sizeOf,typeInfo,program,Sem.run,hi,h2]
    have hle:n*sz<=16777216:=gj hn;have aos:∀zc:ath apU,((Array.range<|n*sz).map<|fun i=>zc[i%zc.size]!)=((Array.range<|n*sz).map<|fun i=>z.cells[i%z.cells.size]!)->Instr.fill (fun i=>some (i*sz,sz)) ((Array.range<|n*sz).map<|fun i=>zc[i%zc.size]!) (ps.toArray.map fun(i,x)=>(i,a.eval x)).toList=some kH:=by
     intro zc hzc;rw[hzc,e2];exact hf
    have hb:E0 w.heap.size w (w.alloc<| .cells kH e):=E0.alloc _;refine⟨.slice (some ⟨w.heap.size,0,none⟩) n n,w.alloc<| .cells kH e,grow H w<|w.alloc<| .cells kH e,?_,Ext.grown hs.sub hb,?_,fun b hb=>absurd hb<|bL.free_spec rfl⟩
    ·have h0: ¬n*sz=0:=by omega
     have hff:=aos z.cells rfl;simp only[execOp,Instr.buildSlice,eN,eE,aO hu,wa];rw[if_neg (by omega)];simp only[eN,ot,eE,if_neg h0,Sr];rw[hff];simp[newRow]
    ·refine⟨_,n,by rw[hl],by omega,fun _=>⟨w.heap.size,0,kH,e,(0,0),rfl,?_,?_,?_⟩⟩
     ·simp only[grow,Nat.lt_irrefl,if_false];exact rO w _
     ·have:=nB gq;simp at this;omega
     ·have hlen:=nB gq;rw[xA,eJ (by omega)];exact ta (Ext.grown hs.sub hb).le gq
   ·cases h2
  ·cases hT
end
section
variable[D:DR]
variable{P:Program}{w0:aq P}{H0:HV}{N:Nat}{Γ az:Ctx}{d:Option Tmp}{ty:TypeId}{pos:String}{af:Array Edge}{g:Option (Nat×Bool)}
def aw{Q:Exit->Act->apT->Prop}{y:Code}(h:Goal P w0 H0 N y Q Γ):lV w0 H0 N (fun a w=>y.wpIn (hC w0.rd) 0 P Q a w) Γ:=h
def uX.conv{t:Nat}{s s':bL}{ts:ard Nat}(h:look Γ t=some s)(e:s=s')(r:uX Γ ts az):uX Γ (t::ts) ((t,s')::az):=e▸uX.cons h r
end
section
variable[D:DR]
variable{P:Program}{w0:aq P}{H0:HV}{N:Nat}{ops:Array Oper}{Γ az:Ctx}{d:Option Tmp}{ty:TypeId}{pos:String}{af:Array Edge}{g:Option (Nat×Bool)}
variable{sz:Nat}{l:ard Ty}{T E:aq9}{x:arc}{t j p:Nat}{σ:Ty}{H:HV}{ρ:Ty}
def mkB(P:arb)(T E sz bytes:Nat):Bool:=
 match P.underlying T with
 |some (.slice e)=>Nat.beq e E&&(match P.info? e with|some i=>Nat.beq i.size sz&&Nat.beq i.bytes bytes&&Nat.blt 0 sz|none=>false)
 |_=>false
def ae0{bytes:Nat}{y:arc}{n:Nat}{τ:Ty}(hT:mkB P T E sz bytes=true)(hz:bJ P E τ)(hsz:τ.n=sz)(hx:Arg Γ x (TI .i64 n))(hy:Arg Γ y (TI .i64 n))(hn:n<=9223372036854775807)(hb:bytes*n<=140737488355328):
  bI P Γ ⟨d,.makeSlice T x y,ty,pos,af,g⟩ (.buf E sz<|List.replicate n τ):=
 iN fun w0 H0 N a w H hs=>by
  obtain⟨z,Sr,UT⟩:=hz.run w;have e1:a.eval x= .int .i64 n:=hx.ok hs;have e2:a.eval y= .int .i64 n:=hy.ok hs;unfold mkB at hT;split at hT
  ·rename_i e hu;simp only[bV] at hT;obtain⟨h1,h2⟩:=hT;have h1:=fB h1;subst h1;split at h2
   ·rename_i i hi;simp only[bV] at h2;obtain⟨⟨h2,h3⟩,h4⟩:=h2;have h2:=fB h2;have h3:=fB h3;have h4:=bU h4;have hz0:=Mn (UT H) n;rw[hsz] at hz0;have hw:IntKind.i64.wrap (n:Int)=n:=wrap_i64 (by unfold CU;omega);have IL: ¬((bytes:Int)*n>2^48):=by
     have:((bytes*n:Nat):Int)<=140737488355328:=by omega
     simp only[tw] at this;omega
    have wa:∀w,(Go.sizeOf e).run P w= .ok sz w:=fun w=>by simp[Go.sizeOf,typeInfo,program,Sem.run,hi,h2]
    have hti:∀w,(typeInfo e).run P w= .ok i w:=fun w=>by simp[typeInfo,program,Sem.run,hi]
    have Kz:askRoom ((n:Int).toNat*i.bytes)=pure ():=by
     unfold askRoom roomBytes;rw[if_neg];rw[h3,Int.toNat_natCast,oI];omega
    have ji:E0 w.heap.size w (w.alloc<| .cells ((Array.range<|n*sz).map<|fun i=>z.cells[i%z.cells.size]!) e):=E0.alloc _;have qb:(Instr.makeSlice T (.int .i64 n)<| .int .i64 n).run P w= .ok (.slice (some ⟨w.heap.size,0,none⟩) n n) (w.alloc<| .cells ((Array.range<|n*sz).map<|fun i=>z.cells[i%z.cells.size]!) e):=by
     have Au: ¬((n:Int)<0):=by omega
     unfold Instr.makeSlice;simp only[eN,aO hu,eE,asInt,asIntOf,ot,hti,hw,h3,Kz,Int.toNat_natCast,wa];have alp:(decide ((n:Int)<0)||decide ((bytes:Int)*n>2^48))=false:=by simp[Au];omega
     simp only[alp];simp only[B4,false_or,Au,Int.lt_irrefl,or_self,if_false,eN,ot,eE,wa];by_cases h0:n*sz=0
     ·have VZ:(Array.range 0:ath Nat)= #[]:=rfl;simp[wa,h0,newRow,VZ]
     ·simp[wa,h0,Sr,newRow]
    refine⟨_,_,H,by simp only[execOp,e1,e2,eN,qb,eE];rfl,Ext.alloc hs.sub _,⟨((Array.range<|n*sz).map<|fun i=>z.cells[i%z.cells.size]!).toList,⟨by simp,.inr ⟨w.heap.size,n,_,by simp,jc _,rO w _,by simp,?_,by simp,?_⟩⟩,hz0,?_⟩,?_⟩
    ·simp only[maxLen];omega
    ·rw[eJ (by simp)]
    ·intro b hb;simp[Value.ownBlock] at hb;subst hb;refine⟨?_,.inl hs.below.size⟩;cases hh:H w.heap.size with
     |none=>rfl
     |some o=>have:=wU hs.sub hh;omega
    ·intro b hb;simp[bL.owns,Value.ownBlock] at hb;omega
   ·cases h2
  ·cases hT
def Bf{B:aq P}{a:Act}{w:apT}{v:apU}(h:(bL.buf E sz l).holds B a w H v)(hne:l≠[]):∃b cap cs xs,v= .slice (some ⟨b,0,none⟩) l.length cap/\w.heap[b]? =some (.cells cs E (0,0))/\l.length<=cap/\cap<=maxLen/\cs.size=cap*sz/\xs.length=l.length*sz/\cs.toList.take (l.length*sz)=xs/\uD H l xs/\H b=none/\B.mg b:=by
 obtain⟨xs,⟨hx,hc⟩,ho,hn⟩:=h;rcases hc with⟨e,hl⟩|⟨g,cap,cur,e,hB,hg,hcap,hm,hcs,ht⟩
 ·exact absurd (rT hl) hne
 ·subst e;exact⟨g,cap,cur,xs,rfl,hg,hcap,hm,hcs,hx,ht,ho,(hn g rfl).1,(hn g rfl).2⟩
def Rl{s:Nat}{ix:arc}{k:IntKind}{i:Int}(hs:look Γ s=some (.same t))(ht:look Γ t=some (.buf E sz l))(hT:Ay P T sz=true)(hi:Arg Γ ix (TI k i))(h0:0<=i)(h1:i<l.length):
  bI P Γ ⟨d,.indexAddr T (.tmp s) ix,ty,pos,af,g⟩ (.CQ t i.toNat sz):=
 bb fun w0 _ _ a w H cn=>by
  obtain⟨b,cap,cs,xs,e,hb,_⟩:=Bf (cn.holds _<|ay ht) (fun e=>by rw[e] at h1;simp at h1;omega);have e2:aV a s=aV a t:=cn.holds _<|ay hs
  have e3:a.eval (.tmp s)= .slice (some ⟨b,0,none⟩) l.length cap:=e2.trans e;have ei:a.eval ix= .int k i:=hi.ok cn;exact⟨.pointer<|some ⟨b,0+i.toNat*sz,none⟩,by simp[execOp,e3,ei,xU hT b 0 l.length cap h0 h1],⟨b,_,cap,e,by simp⟩,rfl⟩
def Rg(hp:look Γ p=some (.CQ t j sz))(ht:look Γ t=some (.buf E sz l))(hu:GK sz l)(hj:l[j]? =some σ)(hT:dR P T σ.n σ.agg=true):
  bI P Γ ⟨d,.load T<| .tmp p,ty,pos,af,g⟩ (.val σ):=
 bb fun w0 _ _ a w H cn=>by
  have OP:=(iG.1 hj).1;obtain⟨b,cap,cs,xs,e,hb,hcap,_,hcs,hx,htake,ho,_,_⟩:=Bf (cn.holds _<|ay ht) (fun e=>by rw[e] at OP;simp at OP);obtain⟨b',ahM,Z9,e1,e2⟩:=cn.holds _<|ay hp
  simp only at e e1;rw[e] at e1;cases e1;have e3:a.eval (.tmp p)= .pointer (some ⟨b,j*sz,none⟩):=e2;obtain⟨p1,p2⟩:=nL ho hj;have hc:cw (l.take j)=j*sz:=by rw[hZ<|hu.take _,List.length_take,fA (by omega)]
  rw[hc] at p1 p2;have XR:l.length*sz<=cs.size:=by rw[hcs];exact mI _ hcap
  have Gn:List.take σ.n (List.drop (j*sz) cs.toList)=List.take σ.n (List.drop (j*sz) xs):=by
   rw[<-htake,tv,uM]
   congr 1;omega
  refine⟨_,?_,p2,rfl⟩;have hr:=lD (P:=P) hT hb (off:=j*sz) (by omega);rw[Gn] at hr;simp[execOp,e3,Instr.loadAt,Instr.sureAddr,hr]
def SY{α:Type _}{cs y:ard α}{o s n:Nat}(hy:y.length=s)(h1:o+s<=n)(h2:n<=cs.length):
  List.take n (cs.take o++y++cs.drop (o+s))=List.take o (cs.take n)++y++List.drop (o+s) (cs.take n):=by
 have e1:(cs.take o++y).length=o+s:=by simp[hy];omega
 rw[Iw,e1,eJ (by omega),uM,fA (by omega),tv]
def Dh{c8:Ctx}(bO:∀q∈c8,q∈Γ)(hp:look c8 p=some (.CQ t j sz))(ht:look c8 t=some (.buf E sz l))(hu:GK sz l)(hj:l[j]? =some ρ)(hx:Arg c8 x σ)(hn:σ.n=sz)(hT:dR P T σ.n σ.agg=true):
  Step P N ops ⟨none,.store T (.tmp p) x,ty,pos,af,none⟩ Γ ((t,.buf E sz<|l.set j σ)::bN t Γ):=by
 intro w0 H0 a w H cn K Q k;simp only[Region.wanted,if_true];have OP:=(iG.1 hj).1;obtain⟨b,cap,cs,xs,e,hb,hcap,Lc,hcs,FT,htake,ho,hH,hB⟩:=Bf (cn.holds _ (bO _<|ay ht)) (fun e=>by rw[e] at OP;simp at OP);obtain⟨b',ahM,Z9,e1,e2⟩:=cn.holds _ (bO _<|ay hp);simp only at e e1;rw[e] at e1;cases e1;have ep:a.eval (.tmp p)= .pointer (some ⟨b,j*sz,none⟩):=e2;have FR:=hx.ok<|cn.weaken bO
 have nP:=σ.shape FR;have hρ:ρ.n=sz:=hu ρ<|B6 hj
 have hc:cw (l.take j)=j*sz:=by rw[hZ<|hu.take _,List.length_take,fA (by omega)]
 obtain⟨p1,_⟩:=nL ho hj;rw[hc,hρ] at p1;have tX:=BH ho hj (hn.trans hρ.symm) FR;rw[hc,hρ] at tX;have XR:l.length*sz<=cs.size:=by rw[hcs];exact mI _ hcap
 have qb:=lr (P:=P) (off:=j*sz) (A5 hT) nP.size hb (by rw[hn];omega) nP.cell;rw[hn] at qb;unfold Oper.wp;have er:(execOp a.eval ⟨none,.store T (.tmp p) x,ty,pos,af,none⟩).run P w= .ok .skip (w.setRow b (cs.toList.take (j*sz)++(a.eval x).cells.toList++cs.toList.drop (j*sz+sz)).toArray):=by
  simp[execOp,ep,Instr.storeAt,Instr.sureAddr,qb]
 rw[er,vA]
 generalize acp:(cs.toList.take (j*sz)++(a.eval x).cells.toList++cs.toList.drop (j*sz+sz)).toArray=AA
 have hg:zM w (w.setRow b AA) (some b):=zM.setRow w b _;have hlen:(a.eval x).cells.toList.length=sz:=by rw[gi,nP.size,hn]
 refine k a _ H (iK cn (bO _<|ay ht) hg hB (by simp[bL.owns,e,Value.ownBlock]) ?_ fun c hc=> .inl hc);refine⟨_,⟨?_,.inr ⟨b,cap,AA,by simpa using e,jc _,Eu w b _ _ _ _ hb,by simpa using hcap,Lc,?_,rfl⟩⟩,?_,?_⟩
 ·rw[<-acp];simp only[ou,List.length_take,Iy,List.length_append,hlen,mG,gi];omega
 ·rw[<-acp,<-hcs];simp only[Iy,List.length_append,List.length_take,hlen,mG,gi];omega
 ·have:List.take (l.length*sz) AA.toList=List.take (j*sz) xs++(a.eval x).cells.toList++List.drop (j*sz+sz) xs:=by
   rw[<-acp,<-htake];exact SY hlen (by omega) (by simp;omega)
  simp only[ou];rw[this];exact tX
 ·intro c hc;simp[e,Value.ownBlock] at hc;subst hc;exact⟨hH,hB⟩
def Pa(hp:look Γ p=some (.CQ t j sz))(ht:look Γ t=some (.buf E sz l))(hu:GK sz l)(hj:l[j]? =some ρ)(hx:Arg Γ x σ)(hn:σ.n=sz)(hT:dR P T σ.n σ.agg=true):
  Step P N ops ⟨none,.store T (.tmp p) x,ty,pos,af,none⟩ Γ ((t,.buf E sz<|l.set j σ)::bN t Γ):=Dh (fun _ h=>h) hp ht hu hj hx hn hT
def M6(hp:look Γ p=some (.CQ t j sz))(ht:look Γ t=some (.buf E sz l))(hu:GK sz l)(hj:l[j]? =some ρ)(hx:Arg Γ x σ)(hn:σ.n=sz)(hT:dR P T σ.n σ.agg=true):
  Px P N ops Γ ⟨none,.store T (.tmp p) x,ty,pos,af,none⟩ t (.buf E sz<|l.set j σ):=fun _ bO=>Dh bO hp ht hu hj hx hn hT
def Af(hu:GK sz l):∀{cs:ard apU},uD H l cs->∀(lo hi:Nat),uD H ((l.take hi).drop lo) ((cs.take<|hi*sz).drop<|lo*sz):=by
 induction l with
 |nil=>intro cs h lo hi;have:cs=[]:=h;subst this;simp[uD]
 |cons τ l ih=>
  rintro cs ⟨v,rest,e,hv,hr⟩ lo hi;subst e;have h1:τ.n=sz:=hu τ (by simp);have hvs:v.cells.toList.length=sz:=by rw[gi,(τ.shape hv).size,h1]
  cases hi with
  |zero=>simp[uD]
  |succ hi=>
   have ht:List.take ((hi+1)*sz) (v.cells.toList++rest)=v.cells.toList++List.take (hi*sz) rest:=by
    rw[Nat.succ_mul,BU,Iw,hvs,eJ (by omega)]
    congr 2;omega
   rw[ht];cases lo with
   |zero=>
    have:=ih (fun x hx=>hu x (by simp[hx])) hr 0 hi;simp only[xA,LJ,LZ] at this⊢;exact⟨v,_,rfl,hv,this⟩
   |succ lo=>
    have hd:List.drop ((lo+1)*sz) (v.cells.toList++List.take (hi*sz) rest)=List.drop (lo*sz) (List.take (hi*sz) rest):=by
     rw[Nat.succ_mul,BU,yE,hvs,wK (by omega)];simp
    rw[hd];exact ih (fun x hx=>hu x (by simp[hx])) hr lo hi
def ag9(hu:GK sz l){ad:atg Addr}{len cap:Nat}(h:(I8 l).ok H (.slice ad len cap)){lo hi m:Nat}(hlh:lo<=hi)(hhl:hi<=l.length)(nc:Nat)(hnc:hi-lo<=nc)(hm:m=lo->lo=hi):
  (I8<|(l.take hi).drop lo).ok H (.slice (if m=lo then ad else ad.map (·.add (lo*sz))) (hi-lo) nc):=by
 obtain⟨ad',Z9,e,hcap,hx⟩:=h;cases e;have hlen:((l.take hi).drop lo).length=hi-lo:=by simp;omega
 refine⟨if m=lo then ad else ad.map (·.add (lo*sz)),nc,by rw[hlen],by omega,fun hne=>?_⟩;have hne':l≠[]:=by intro e;subst e;simp at hne
 have hlt:lo<hi:=by
  apply nF;intro Ui;exact hne (rT (by omega))
 obtain⟨b,off,cs,E,fr,e1,hb,hs,ho⟩:=hx hne';subst e1;have Lc: ¬m=lo:=fun e=>by have:=hm e;omega
 have hlc:cw l=l.length*sz:=hZ hu;have bO:(GK sz<|(l.take hi).drop lo):=fun x hx=>hu x<|tC<|yG hx
 have hcn:cw ((l.take hi).drop lo)=(hi-lo)*sz:=by rw[hZ bO,hlen]
 have hmul:hi*sz<=l.length*sz:=mI _ hhl;have aqD:(hi-lo)*sz+lo*sz=hi*sz:=by rw[<-om];congr 1;omega
 refine⟨b,off+lo*sz,cs,E,fr,by simp[Lc,addr_add],hb,by omega,?_⟩;have:=Af hu ho lo hi;rw[hcn];have e2:List.take ((hi-lo)*sz) (List.drop (off+lo*sz) cs.toList)=List.drop (lo*sz) (List.take (hi*sz)<|List.take (cw l)<|List.drop off cs.toList):=by
  rw[uM,fA (by omega),tv,iF]
  congr 1;omega
 rw[e2];exact this
def abj{lo hi:atg arc}{i:Nat}(hT:Ay P T sz=true)(hx:Arg Γ x (I8 l))(hu:GK sz l)
 (FU:(lo=none/\i=0)\/∃y k,lo=some y/\Arg Γ y (TI k i))(Ug:(hi=none/\j=l.length)\/∃y k,hi=some y/\Arg Γ y (TI k j))(Sv:i<=j)(OP:j<=l.length):
  bI P Γ ⟨d,.slice T x lo hi none,ty,pos,af,g⟩ (.val<|I8<|(l.take j).drop i):=
 bb fun w0 _ _ a w H hs=>by
  have hxo:=hx.ok hs;have anB:=hxo;obtain⟨ad,cap,e,hcap,hxx⟩:=anB;rw[e] at hxo;obtain⟨el,ii,hue,hii,hsz⟩:=Ls hT;have wa:∀w,(Go.sizeOf el).run P w= .ok sz w:=fun w=>by simp[Go.sizeOf,typeInfo,program,Sem.run,hii,hsz]
  have hbd:(Instr.sliceBounds true l.length cap (lo.map a.eval) (hi.map a.eval) none).run P w= .ok (i,j,cap) w:=by
   have b1:∀(k:IntKind) (code:BoundsCode),(Instr.sliceBound (.int k (j:Int)) cap code).run P w= .ok j w:=fun k code=>by
    have:(j:Int)<=cap:=by omega
    simp[Instr.sliceBound,asIntOf];omega
   have b2:∀(k:IntKind) (code:BoundsCode),(Instr.sliceBound (.int k (i:Int)) j code).run P w= .ok i w:=fun k code=>by
    simp[Instr.sliceBound,asIntOf];omega
   rcases FU with⟨e1,e2⟩|⟨y,k,e1,e2⟩<;>rcases Ug with⟨f1,f2⟩|⟨z,k',f1,f2⟩
   ·subst e1;subst f1;subst e2;subst f2;simp[Instr.sliceBounds]
   ·subst e1;subst f1;subst e2;have ez:a.eval z= .int k' j:=f2.ok hs;simp[Instr.sliceBounds,ez,b1]
   ·subst e1;subst f1;subst f2;have ey:a.eval y= .int k i:=e2.ok hs;simp[Instr.sliceBounds,ey,b2]
   ·subst e1;subst f1;have ey:a.eval y= .int k i:=e2.ok hs;have ez:a.eval z= .int k' j:=f2.ok hs;simp[Instr.sliceBounds,ey,ez,b1,b2]
  refine⟨_,?_,ag9 hu hxo Sv OP (m:=cap) (cap-i) (by omega) (fun e=>by omega),rfl⟩;have e3:a.eval x= .slice ad l.length cap:=e;simp[execOp,e3,Instr.sliceAt,aO hue,Instr.slice,hbd,wa]
end
section
variable[D:DR]
variable{P:Program}{N:Nat}{ops:Array Oper}{Γ az:Ctx}{d:Option Tmp}{ty:TypeId}{pos:String}{af:Array Edge}{g:Option (Nat×Bool)}
variable{T:aq9}{α:Type}{x:arc}{f:α->Ty}{l:ard α}{sz:Nat}{n:Int}{y:arc}{t:Nat}{T' E:aq9}{k:IntKind}{i m r:Int}{H:HV}{j:Nat}{w0:aq P}{p:Nat}{z:α}{ix:arc}{off:Nat}{τ:Ty}{len bytes:Nat}{v:apU}{a:Act}{w:apT}{dd:Nat}{T2:aq9}{r9:ath aq9}{σ:Ty}{b:Bool}{lo hi:atg arc}{H0:HV}{k':IntKind}{xs:ard arc}{args c6:ard Ty}
def sY{o:Oper}{s s':bL}(h:bI P Γ o s)(e:s=s'):bI P Γ o s':=e▸h
@[reducible] def TS(l:ard UInt8):Ty:=UK ⟨l.toArray⟩
@[reducible] def lT{α:Type}(f:α->Ty)(l:ard α):ard Ty:=l.map f
@[reducible] def TL{α:Type}(f:α->Ty)(l:ard α):Ty:=I8<|lT f l
@[reducible] def aae{α:Type}(f:α->Ty)(l:ard α):Ty:=fJ<|lT f l
def TN{α:Type}(f:α->Ty)(l:ard α):Ty where
 n:=1
 agg:=false
 ok:=fun H v=>(TL f l).ok H v/\(l=[]->v= .slice none 0 0)
 mono:=fun h k=>⟨(TL f l).mono h k.1,k.2⟩
 shape:=fun k=>(TL f l).shape k.1
def bm{α:Type}(l:ard α):Int->atg α
 | .ofNat n=>l[n]?
 | .negSucc _=>none
def im{α:Type}(l:ard α)(lo hi:Int):atg (ard α):=bif decide (0<=lo)&&(decide (lo<=hi)&&decide (hi<=l.length)) then some ((l.take hi.toNat).drop lo.toNat) else none
def A6(n:Int):Bool:=decide (-9223372036854775808<=n)&&decide (n<=9223372036854775807)
def aF(n:Int):atg Int:=bif A6 n then some n else none
def fe{α:Type}(bytes:Nat)(l m:ard α):atg (ard α):=bif decide ((l.length+m.length)*bytes<=140737488355328)&&decide (l.length+m.length<=9223372036854775807) then some (l++m) else none
def VI{α:Type}(bytes:Nat)(n:Int)(z:α):atg (ard α):=bif decide (0<=n)&&(decide (n<=9223372036854775807)&&decide (bytes*n<=140737488355328)) then some (List.replicate n.toNat z) else none
def xS(l m:ard UInt8):atg (ard UInt8):=bif decide (l.length+m.length<=9223372036854775807) then some (l++m) else none
def uV(m n:Int):atg Int:=bif decide (n=0) then none else aF (m.tdiv n)
def sH(m n:Int):atg Int:=bif decide (n=0) then none else some (m.tmod n)
def py{x:α}(h:bm l i=some x):0<=i/\i<l.length/\l[i.toNat]? =some x:=by
 cases i with
 |ofNat n=>
  have h':l[n]? =some x:=h;have:=(iG.1 h').1;refine⟨Int.natCast_nonneg n,?_,h'⟩;show(n:Int)<_;omega
 |negSucc n=>cases h
def M3{r:ard α}{lo hi:Int}(h:im l lo hi=some r):0<=lo/\lo<=hi/\hi<=l.length/\r=(l.take hi.toNat).drop lo.toNat:=by
 unfold im at h;cases hc:(decide (0<=lo)&&(decide (lo<=hi)&&decide (hi<=l.length)))
 ·rw[hc] at h;cases h
 ·rw[hc] at h;simp only[bV,wG] at hc;exact⟨hc.1,hc.2.1,hc.2.2,(fj h).symm⟩
def ZA(h:A6 n=true):CU n:=by simpa[A6,CU] using h
def D5(h:aF n=some r):CU n/\r=n:=by
 unfold aF at h;cases hc:A6 n
 ·rw[hc] at h;cases h
 ·rw[hc] at h;exact⟨ZA hc,(fj h).symm⟩
def EW{b:Nat}{m r:ard α}(h:fe b l m=some r):(l.length+m.length)*b<=140737488355328/\l.length+m.length<=9223372036854775807/\r=l++m:=by
 unfold fe at h;cases hc:(decide ((l.length+m.length)*b<=140737488355328)&&decide (l.length+m.length<=9223372036854775807))
 ·rw[hc] at h;cases h
 ·rw[hc] at h;simp only[bV,wG] at hc;exact⟨hc.1,hc.2,(fj h).symm⟩
def ae5{b:Nat}{r:ard α}(h:VI b n z=some r):∃m:Nat,n=m/\m<=9223372036854775807/\b*m<=140737488355328/\r=List.replicate m z:=by
 unfold VI at h;cases hc:(decide (0<=n)&&(decide (n<=9223372036854775807)&&decide (b*n<=140737488355328)))
 ·rw[hc] at h;cases h
 ·rw[hc] at h;simp only[bV,wG] at hc;refine⟨n.toNat,by omega,by omega,?_,(fj h).symm⟩;have h1:((b*n.toNat:Nat):Int)=b*n:=by rw[tw,Int.toNat_of_nonneg hc.1]
  have:=hc.2.2;omega
def YV{l m r:ard UInt8}(h:xS l m=some r):l.length+m.length<=9223372036854775807/\r=l++m:=by
 unfold xS at h;cases hc:decide (l.length+m.length<=9223372036854775807)
 ·rw[hc] at h;cases h
 ·rw[hc] at h;exact⟨bf hc,(fj h).symm⟩
def ac2(h:uV m n=some r):n≠0/\CU (m.tdiv n)/\r=m.tdiv n:=by
 unfold uV at h;cases hc:decide (n=0)
 ·rw[hc] at h;obtain⟨h1,h2⟩:=D5 h;exact⟨bP hc,h1,h2⟩
 ·rw[hc] at h;cases h
def aa4(h:sH m n=some r):n≠0/\r=m.tmod n:=by
 unfold sH at h;cases hc:decide (n=0)
 ·rw[hc] at h;exact⟨bP hc,(fj h).symm⟩
 ·rw[hc] at h;cases h
def xF(l:ard UInt8):(⟨l.toArray⟩:ByteArray).toList=l:=by
 have key:∀(b:ByteArray) (n:Nat) (i:Nat) (r:ard UInt8),b.size-i=n->i<=b.size->ByteArray.toList.loop b i r=r.reverse++b.data.toList.drop i:=by
  intro b n
  induction n with
  |zero=>
   intro i r hn hi;unfold ByteArray.toList.loop;have: ¬i<b.size:=by omega
   rw[if_neg this,List.drop_eq_nil_of_le (by simp only[gi];exact Nat.le_of_not_lt this)];simp
  |succ n ih=>
   intro i r hn hi;unfold ByteArray.toList.loop;have hlt:i<b.size:=by omega
   rw[if_pos hlt,ih (i+1) _ (by omega) (by omega)];have hl:i<b.data.toList.length:=by simpa using hlt
   rw[BQ hl];have:b.get! i=b.data.toList[i]:=by
    cases b with
    |mk a=>
     show a[i]! =_;rw[oq a i hlt];simp
   simp[this]
 unfold ByteArray.toList;rw[key _ _ 0 [] rfl<|jc _];simp
def Arg.s{b:ByteArray}{l:ard UInt8}(h:b=⟨l.toArray⟩):Arg Γ (.const<| .string b) (TS l):=⟨fun _=>by subst h;rfl⟩
def Arg.nl:Arg Γ (.const<| .slice none 0 0) (TL f []):=Arg.agp
def Arg.nn:Arg Γ (.const<| .slice none 0 0) (TN f []):=⟨fun hs=>⟨(Arg.agp (Γ:=Γ)).ok hs,fun _=>rfl⟩⟩
def Yk:∀H v,(TN f l).ok H v->(TL f l).ok H v:=fun _ _ h=>h.1
def UM(h:l.isEmpty=false):∀H v,(TL f l).ok H v->(TN f l).ok H v:=fun _ _ k=>⟨k,fun e=>by subst e;cases h⟩
def pY{m n r:ard UInt8}(hx:Arg Γ x (TS m))(hy:Arg Γ y (TS n))(h:xS m n=some r):bI P Γ ⟨d,.binOp .add T x y T',ty,pos,af,g⟩ (.val<|TS r):=
 lW hx hy fun H u v hu hv w _=>by
  cases hu;cases hv;obtain⟨h1,h2⟩:=YV h;subst h2;have hsz: ¬(((⟨m.toArray⟩:ByteArray).size+(⟨n.toArray⟩:ByteArray).size:Nat):Int)>IntKind.i64.max:=by
   have e1:(⟨m.toArray⟩:ByteArray).size=m.length:=by simp[ByteArray.size]
   have e2:(⟨n.toArray⟩:ByteArray).size=n.length:=by simp[ByteArray.size]
   rw[e1,e2];have:IntKind.i64.max=9223372036854775807:=rfl;rw[this];omega
  refine⟨.string<|⟨m.toArray⟩++⟨n.toArray⟩,?_,?_⟩
  ·simp only[eqGuard,binOp,Op.stringOp,if_neg hsz];rfl
  ·show Value.string _=Value.string _
   congr 1
def uA{m n:ard UInt8}(hx:Arg Γ x (TS m))(hy:Arg Γ y (TS n)):bI P Γ ⟨d,.binOp .eql T x y T',ty,pos,af,g⟩ (.val<|aY<|m==n):=by
 have:=ahD (P:=P) (d:=d) (ty:=ty) (pos:=pos) (af:=af) (g:=g) (T:=T) (T':=T') hx hy;rwa [xF,xF] at this
def Nw{m n:ard UInt8}(hx:Arg Γ x (TS m))(hy:Arg Γ y (TS n)):bI P Γ ⟨d,.binOp .neq T x y T',ty,pos,af,g⟩ (.val<|aY<| !(m==n)):=by
 have:=ahy (P:=P) (d:=d) (ty:=ty) (pos:=pos) (af:=af) (g:=g) (T:=T) (T':=T') hx hy;rwa [xF,xF] at this
def fy{s:ard UInt8}(hT:isStr P T=true)(hx:Arg Γ x (TS s)):bI P Γ ⟨d,.call ⟨.builtin .len,#[x],#[T]⟩,ty,pos,af,g⟩ (.val<|TI .i64 s.length):=by
 have:=VB (P:=P) (d:=d) (ty:=ty) (pos:=pos) (af:=af) (g:=g) hT hx;have e:(⟨s.toArray⟩:ByteArray).size=s.length:=by simp[ByteArray.size]
 rwa [e] at this
def pX{s:ard UInt8}{b:UInt8}(hT:isStr P T=true)(hx:Arg Γ x (TS s))(hy:Arg Γ y (TI k i))(h:bm s i=some b):bI P Γ ⟨d,.index T x y,ty,pos,af,g⟩ (.val<|TI .u8 b.toNat):=
 bb fun _ _ _ a w H hs=>by
  have e:a.eval x= .string ⟨s.toArray⟩:=hx.ok hs;have e2:a.eval y= .int k i:=hy.ok hs;obtain⟨h1,h2,h3⟩:=py h;have hlt:=(iG.1 h3).1;have h4:(⟨s.toArray⟩:ByteArray)[i.toNat]? =some b:=by
   have an5:i.toNat<(⟨s.toArray⟩:ByteArray).size:=by simpa[ByteArray.size] using hlt
   rw[getElem?_pos (⟨s.toArray⟩:ByteArray) i.toNat an5]
   congr 1
   show s.toArray[i.toNat]'_=b;rw[kb hlt] at h3;simpa using h3
  exact⟨_,by simp[execOp,e,e2,Instr.index,asIntOf,aO<|Gm hT,h1,h4],rfl,rfl⟩
inductive Lo(Γ:Ctx):atg arc->Int->Int->Prop where
 |none {n:Int}:Lo Γ none n n
 |some {y:arc} {k:IntKind} {i n:Int} (h:Arg Γ y (TI k i)):Lo Γ (some y) n i
def Cw{cap:Nat}{j:Int}(FU:Lo Γ lo 0 i)(Ug:Lo Γ hi len j)(h0:0<=i)(Sv:i<=j)(hj:j<=len)(hlc:len<=cap){N:Nat}(hs:Sat w0 H0 N Γ a w H):
  (Instr.sliceBounds b len cap (lo.map a.eval) (hi.map a.eval) none).run P w= .ok (i.toNat,j.toNat,cap) w:=by
 have b1:∀(k:IntKind) (code:BoundsCode),(Instr.sliceBound (.int k j) cap code).run P w= .ok j.toNat w:=fun k code=>by
  have:0<=j/\j<=cap:=by omega
  simp[Instr.sliceBound,asIntOf,this]
 have b2:∀(k:IntKind) (code:BoundsCode),(Instr.sliceBound (.int k i) j.toNat code).run P w= .ok i.toNat w:=fun k code=>by
  have h1:i<=(j.toNat:Int):=by omega
  simp only[Instr.sliceBound,asIntOf,eN,ot,eE,if_pos<|And.intro h0 h1]
 cases FU with
 |none=>
  cases Ug with
  |none=>simp[Instr.sliceBounds]
  |some hz=>have ez:=hz.ok hs;simp only[adA] at ez;simp[Instr.sliceBounds,ez,b1]
 |some hy=>
  have ey:=hy.ok hs;simp only[adA] at ey;cases Ug with
  |none=>
   have b2':∀(k:IntKind) (code:BoundsCode),(Instr.sliceBound (.int k i) len code).run P w= .ok i.toNat w:=fun k code=>by simpa using b2 k code
   simp[Instr.sliceBounds,ey,b2']
  |some hz=>have ez:=hz.ok hs;simp only[adA] at ez;simp[Instr.sliceBounds,ez,ey,b1,b2]
def fY{s r:ard UInt8}{j:Int}(hT:isStr P T=true)(hx:Arg Γ x (TS s))(FU:Lo Γ lo 0 i)(Ug:Lo Γ hi s.length j)(h:im s i j=some r):
  bI P Γ ⟨d,.slice T x lo hi none,ty,pos,af,g⟩ (.val<|TS r):=
 bb fun _ _ _ a w H hs=>by
  obtain⟨h1,h2,h3,h4⟩:=M3 h;subst h4;have e:a.eval x= .string ⟨s.toArray⟩:=hx.ok hs;have esz:(⟨s.toArray⟩:ByteArray).size=s.length:=by simp[ByteArray.size]
  have hbd:=Cw (P:=P) (b:=false) FU Ug h1 h2 h3 (bC _) hs;refine⟨.string<|(⟨s.toArray⟩:ByteArray).extract i.toNat j.toNat,?_,?_,rfl⟩
  ·simp[execOp,e,Instr.sliceAt,aO<|Gm hT,Instr.slice,esz,hbd]
  ·show Value.string _=Value.string _
   congr 1
   apply ByteArray.ext;rw[ByteArray.data_extract];simp[List.extract_eq_take_drop,tv]
def pW(hT:jX P T=true)(hx:Arg Γ x (TL f l)):bI P Γ ⟨d,.call ⟨.builtin .len,#[x],#[T]⟩,ty,pos,af,g⟩ (.val<|TI .i64 l.length):=by
 have:=ahA (P:=P) (d:=d) (ty:=ty) (pos:=pos) (af:=af) (g:=g) hT hx;rwa [fW] at this
def mU{s:Nat}(hT:jX P T=true)(hs:look Γ s=some (.same t))(ht:look Γ t=some (.buf E sz<|lT f l)):bI P Γ ⟨d,.call ⟨.builtin .len,#[.tmp s],#[T]⟩,ty,pos,af,g⟩ (.val<|TI .i64 l.length):=by
 have:=Tv (P:=P) (d:=d) (ty:=ty) (pos:=pos) (af:=af) (g:=g) hT hs ht;rwa [fW] at this
def ae1(hT:jX P T=true)(ht:look Γ t=some (.buf E sz<|lT f l)):bI P Γ ⟨d,.call ⟨.builtin .len,#[.tmp t],#[T]⟩,ty,pos,af,g⟩ (.val<|TI .i64 l.length):=
 bb fun _ _ _ a w H cn=>by
  obtain⟨ad,cap,e⟩:=Yf<|cn.holds _<|ay ht
  have e3:a.eval (.tmp t)= .slice ad (lT f l).length cap:=e;rw[fW] at e3;exact⟨_,by simp[execOp,resolve,invoke,builtin,e3,Gb hT],rfl,rfl⟩
def kS{y:α}(hT:Ay P T sz=true)(hf:∀z,(f z).n=sz)(hx:Arg Γ x (TL f l))(hi:Arg Γ ix (TI k i))(h:bm l i=some y):
  bI P Γ ⟨d,.indexAddr T x ix,ty,pos,af,g⟩ (.val<|nm<|f y):=by
 obtain⟨h1,h2,h3⟩:=py h;exact Tw hx hT (lR hf l) hi h1 (by rw[mH,h3];rfl)
def dK{s:Nat}{y:α}(hT:Ay P T sz=true)(hs:look Γ s=some (.same t))(ht:look Γ t=some (.buf E sz<|lT f l))(hi:Arg Γ ix (TI k i))(h:bm l i=some y):
  bI P Γ ⟨d,.indexAddr T (.tmp s) ix,ty,pos,af,g⟩ (.CQ t i.toNat sz):=by
 obtain⟨h1,h2,h3⟩:=py h;exact Rl hs ht hT hi h1 (by rw[fW];exact h2)
def og{y:α}(hf:∀z,(f z).n=sz)(hp:look Γ p=some (.CQ t j sz))(ht:look Γ t=some (.buf E sz<|lT f l))(h:l[j]? =some y)(hT:dR P T (f y).n (f y).agg=true):
  bI P Γ ⟨d,.load T<| .tmp p,ty,pos,af,g⟩ (.val<|f y):=
 Rg hp ht (lR hf l) (by rw[mH,h];rfl) hT
def o8{y:α}(hf:∀z,(f z).n=sz)(hp:look Γ p=some (.CQ t j sz))(ht:look Γ t=some (.buf E sz<|lT f l))(h:l[j]? =some z)(hx:Arg Γ x (f y))(hT:dR P T (f y).n (f y).agg=true):
  Step P N ops ⟨none,.store T (.tmp p) x,ty,pos,af,none⟩ Γ ((t,.buf E sz<|lT f<|l.set j y)::bN t Γ):=by
 have:=Pa (P:=P) (N:=N) (ops:=ops) (ty:=ty) (pos:=pos) (af:=af) hp ht (lR hf l) (by rw[mH,h];rfl) hx (hf y) hT;rwa [show(lT f l).set j (f y)=lT f (l.set j y) from by simp[lT,xz]] at this
def Q1{y:α}(hf:∀z,(f z).n=sz)(hp:look Γ p=some (.CQ t j sz))(ht:look Γ t=some (.buf E sz<|lT f l))(h:l[j]? =some z)(hx:Arg Γ x (f y))(hT:dR P T (f y).n (f y).agg=true):
  Px P N ops Γ ⟨none,.store T (.tmp p) x,ty,pos,af,none⟩ t (.buf E sz<|lT f<|l.set j y):=by
 have:=M6 (P:=P) (N:=N) (ops:=ops) (ty:=ty) (pos:=pos) (af:=af) hp ht (lR hf l) (by rw[mH,h];rfl) hx (hf y) hT;rwa [show(lT f l).set j (f y)=lT f (l.set j y) from by simp[lT,xz]] at this
def P9:maxLen=9223372036854775807:=rfl
def dp{m r:ard α}{s:Nat}(N4:jX P T2=true)(hT:qe P T E sz bytes=true)(hf:∀z,(f z).n=sz)(hs:look Γ s=some (.same t))(ht:look Γ t=some (.buf E sz<|lT f l))(hx:Arg Γ x (TL f m))(h:fe bytes l m=some r)(na:dd<N):
  Step P N ops ⟨some dd,.call ⟨.builtin .append,#[.tmp s,x],#[T,T2]⟩,ty,pos,af,none⟩ Γ ((dd,.buf E sz<|lT f r)::del dd (bN t Γ)):=by
 obtain⟨h1,h2,h3⟩:=EW h;subst h3;have:=YS (P:=P) (N4:=N4) (N:=N) (ops:=ops) (ty:=ty) (pos:=pos) (af:=af) hs ht hx hT (lR hf m) (by rw[fW,fW,P9];exact h2) (by rw[fW,fW];exact h1) na;rwa [show lT f l++lT f m=lT f (l++m) from by simp[lT]] at this
def xk{m r:ard α}(N4:jX P T2=true)(hT:qe P T E sz bytes=true)(hf:∀z,(f z).n=sz)(ht:look Γ t=some (.buf E sz<|lT f l))(hx:Arg Γ x (TL f m))(h:fe bytes l m=some r)(na:dd<N):
  Step P N ops ⟨some dd,.call ⟨.builtin .append,#[.tmp t,x],#[T,T2]⟩,ty,pos,af,none⟩ Γ ((dd,.buf E sz<|lT f r)::del dd (bN t Γ)):=by
 obtain⟨h1,h2,h3⟩:=EW h;subst h3;have:=Vf (P:=P) (N4:=N4) (N:=N) (ops:=ops) (ty:=ty) (pos:=pos) (af:=af) ht hx hT (lR hf m) (by rw[fW,fW,P9];exact h2) (by rw[fW,fW];exact h1) na;rwa [show lT f l++lT f m=lT f (l++m) from by simp[lT]] at this
def pB{m r:ard α}{s:Nat}(N4:jX P T2=true)(hT:qe P T E sz bytes=true)(hf:∀z,(f z).n=sz)(hs:look Γ s=some (.same t))(ht:look Γ t=some (.buf E sz<|lT f l))(hx:Arg Γ x (TL f m))(h:fe bytes l m=some r)(na:dd<N):
  Py P N ops Γ ⟨some dd,.call ⟨.builtin .append,#[.tmp s,x],#[T,T2]⟩,ty,pos,af,none⟩ t dd (.buf E sz<|lT f r):=by
 obtain⟨h1,h2,h3⟩:=EW h;subst h3;have:=ZU (P:=P) (N4:=N4) (N:=N) (ops:=ops) (ty:=ty) (pos:=pos) (af:=af) hs ht hx hT (lR hf m) (by rw[fW,fW,P9];exact h2) (by rw[fW,fW];exact h1) na;rwa [show lT f l++lT f m=lT f (l++m) from by simp[lT]] at this
def Mh{m r:ard α}(N4:jX P T2=true)(hT:qe P T E sz bytes=true)(hf:∀z,(f z).n=sz)(ht:look Γ t=some (.buf E sz<|lT f l))(hx:Arg Γ x (TL f m))(h:fe bytes l m=some r)(na:dd<N):
  Py P N ops Γ ⟨some dd,.call ⟨.builtin .append,#[.tmp t,x],#[T,T2]⟩,ty,pos,af,none⟩ t dd (.buf E sz<|lT f r):=by
 obtain⟨h1,h2,h3⟩:=EW h;subst h3;have:=Wf (P:=P) (N4:=N4) (N:=N) (ops:=ops) (ty:=ty) (pos:=pos) (af:=af) ht hx hT (lR hf m) (by rw[fW,fW,P9];exact h2) (by rw[fW,fW];exact h1) na;rwa [show lT f l++lT f m=lT f (l++m) from by simp[lT]] at this
def ba(f:α->Ty)(E:aq9)(sz:Nat):bI P Γ ⟨d,.assign<| .const<| .slice none 0 0,ty,pos,af,g⟩ (.buf E sz<|lT f []):=Zg
def ij(ht:look Γ t=some (.buf E sz<|lT f l)):qj w0 N Γ ((t,.val<|TL f l)::bN t Γ):=aeS ht
def FH(f:α->Ty){r:ard α}(hT:mkB P T E sz bytes=true)(hz:bJ P E (f z))(hsz:(f z).n=sz)(hx:Arg Γ x (TI .i64 n))(hy:Arg Γ y (TI .i64 n))(h:VI bytes n z=some r):
  bI P Γ ⟨d,.makeSlice T x y,ty,pos,af,g⟩ (.buf E sz<|lT f r):=by
 obtain⟨m,h1,h2,h3,h4⟩:=ae5 h;subst h1;subst h4;have:=ae0 (P:=P) (d:=d) (ty:=ty) (pos:=pos) (af:=af) (g:=g) hT hz hsz hx hy h2 h3;rwa [show List.replicate m (f z)=lT f (List.replicate m z) from by simp[lT]] at this
def sv{r:ard α}{j:Int}(hT:Ay P T sz=true)(hf:∀z,(f z).n=sz)(hx:Arg Γ x (TL f l))(FU:Lo Γ lo 0 i)(Ug:Lo Γ hi l.length j)(h:im l i j=some r):
  bI P Γ ⟨d,.slice T x lo hi none,ty,pos,af,g⟩ (.val<|TL f r):=by
 obtain⟨h1,h2,h3,h4⟩:=M3 h;subst h4;have hi':((i.toNat:Nat):Int)=i:=by omega
 have hj':((j.toNat:Nat):Int)=j:=by omega
 have:=abj (P:=P) (d:=d) (ty:=ty) (pos:=pos) (af:=af) (g:=g) (lo:=lo) (hi:=hi) (i:=i.toNat) (j:=j.toNat) hT hx (lR hf l)
  (by cases FU with
   |none=>exact .inl ⟨rfl,rfl⟩
   |some hy=>exact .inr ⟨_,_,rfl,by rw[hi'];exact hy⟩)
  (by cases Ug with
   |none=>exact .inl ⟨rfl,by rw[fW];omega⟩
   |some hy=>exact .inr ⟨_,_,rfl,by rw[hj'];exact hy⟩)
  (by omega) (by rw[fW];omega)
 rwa [show((lT f l).take j.toNat).drop i.toNat=lT f ((l.take j.toNat).drop i.toNat) from by simp[lT,List.map_take,List.map_drop]] at this
def PS(h:jX P T=true)(ad:atg Addr)(n c:Nat)(w:apT):(Op.equal T (.slice ad n c)<| .slice none 0 0).run P w= .ok ad.isNone w:=by
 obtain⟨e,hu⟩:=EN h;have key:∀d,(Op.equalIn (d+1) T (.slice ad n c)<| .slice none 0 0).run P w= .ok ad.isNone w:=by
  intro d;unfold Op.equalIn;cases ad<;>simp[aO hu]
 exact key 9999
def ady(h:(TN f l).ok H v):∃ad n c,v= .slice ad n c/\ad.isNone=l.isEmpty:=by
 obtain⟨⟨ad,cap,e,_,hx⟩,hn⟩:=h;cases l with
 |nil=>exact⟨none,0,0,hn rfl,rfl⟩
 |cons y l=>
  obtain⟨b,off,cs,E,fr,e1,_⟩:=hx (by simp[lT]);exact⟨ad,_,cap,e,by subst e1;rfl⟩
def qo(hT:jX P T=true)(hx:Arg Γ x (TN f l)):bI P Γ ⟨d,.binOp .eql T x (.const<| .slice none 0 0) T',ty,pos,af,g⟩ (.val<|aY l.isEmpty):=
 bb fun _ _ _ a w H hs=>by
  obtain⟨ad,n,c,e,h⟩:=ady<|hx.ok hs
  refine⟨.bool ad.isNone,?_,by rw[h];rfl,rfl⟩;have e2:a.eval (.const<| .slice none 0 0)= .slice none 0 0:=rfl;simp[execOp,e,e2,eqGuard,binOp,PS hT]
def ahz(hT:jX P T=true)(hx:Arg Γ x (TN f l)):bI P Γ ⟨d,.binOp .neq T x (.const<| .slice none 0 0) T',ty,pos,af,g⟩ (.val<|aY<| !l.isEmpty):=
 bb fun _ _ _ a w H hs=>by
  obtain⟨ad,n,c,e,h⟩:=ady<|hx.ok hs
  refine⟨.bool<| !ad.isNone,?_,by rw[h];rfl,rfl⟩;have e2:a.eval (.const<| .slice none 0 0)= .slice none 0 0:=rfl;simp[execOp,e,e2,eqGuard,binOp,PS hT]
def bR(hx:Arg Γ x (TI .i64 m))(hy:Arg Γ y (TI .i64 n))(h:aF (m+n)=some r):bI P Γ ⟨d,.binOp .add T x y T',ty,pos,af,g⟩ (.val<|TI .i64 r):=by
 obtain⟨h1,h2⟩:=D5 h;subst h2;exact ae3 hx hy h1
def bn(hx:Arg Γ x (TI .i64 m))(hy:Arg Γ y (TI .i64 n))(h:aF (m-n)=some r):bI P Γ ⟨d,.binOp .sub T x y T',ty,pos,af,g⟩ (.val<|TI .i64 r):=by
 obtain⟨h1,h2⟩:=D5 h;subst h2;exact aeW hx hy h1
def oz(hx:Arg Γ x (TI .i64 m))(hy:Arg Γ y (TI .i64 n))(h:aF (m*n)=some r):bI P Γ ⟨d,.binOp .mul T x y T',ty,pos,af,g⟩ (.val<|TI .i64 r):=by
 obtain⟨h1,h2⟩:=D5 h;subst h2;exact aeZ hx hy h1
def Eo(hx:Arg Γ x (TI .i64 n))(h:aF (-n)=some r):bI P Γ ⟨d,.unOp .neg T x,ty,pos,af,g⟩ (.val<|TI .i64 r):=by
 obtain⟨h1,h2⟩:=D5 h;subst h2;exact aeY hx h1
def rq(hx:Arg Γ x (TI .i64 m))(hy:Arg Γ y (TI .i64 n))(h:uV m n=some r):bI P Γ ⟨d,.binOp .quo T x y T',ty,pos,af,g⟩ (.val<|TI .i64 r):=by
 obtain⟨h1,h2,h3⟩:=ac2 h;subst h3;exact aeX hx hy h1 h2
def mQ(hx:Arg Γ x (TI k m))(hy:Arg Γ y (TI k n))(h:sH m n=some r):bI P Γ ⟨d,.binOp .rem T x y T',ty,pos,af,g⟩ (.val<|TI k r):=by
 obtain⟨h1,h2⟩:=aa4 h;subst h2;exact ahx hx hy h1
@[reducible] def wr(k:IntKind)(n:Int):Int:=k.wrap n
def Wl(k:IntKind)(m n:Int):atg Int:=bif decide (n=0) then none else some (wr k<|m.tdiv n)
def Rc(hx:Arg Γ x (TI k m))(hy:Arg Γ y (TI k n))(h:Wl k m n=some r):bI P Γ ⟨d,.binOp .quo T x y T',ty,pos,af,g⟩ (.val<|TI k r):=by
 unfold Wl at h;cases hc:decide (n=0)
 ·rw[hc] at h;have:=(fj h);subst this;exact abk hx hy<|bP hc
 ·rw[hc] at h;cases h
def mN(op:BinOp)(k:IntKind)(x y:Int):Int:=
 let a:=BitVec.ofInt k.bits x
 let b:=BitVec.ofInt k.bits y
 match op with
 | .and=>k.wrap (a&&&b).toNat
 | .or=>k.wrap (a|||b).toNat
 | .xor=>k.wrap (a^^^b).toNat
 | .andNot=>k.wrap (a&&& ~~~b).toNat
 |_=>0
def Ro(hx:Arg Γ x (TI k m))(hy:Arg Γ y (TI k n)):bI P Γ ⟨d,.binOp .and T x y T',ty,pos,af,g⟩ (.val<|TI k<|mN .and k m n):=
 lW hx hy fun H u v hu hv w _=>by
  cases hu;cases hv;exact⟨_,by simp[eqGuard,binOp,Op.intBits];rfl,rfl⟩
def Vy(hx:Arg Γ x (TI k m))(hy:Arg Γ y (TI k n)):bI P Γ ⟨d,.binOp .or T x y T',ty,pos,af,g⟩ (.val<|TI k<|mN .or k m n):=
 lW hx hy fun H u v hu hv w _=>by
  cases hu;cases hv;exact⟨_,by simp[eqGuard,binOp,Op.intBits];rfl,rfl⟩
def Hv(k:IntKind)(x y:Int):atg Int:=bif decide (y<0) then none else some (k.wrap<|x*2^(min y.toNat k.bits))
def Hu(k:IntKind)(x y:Int):atg Int:=bif decide (y<0) then none else some (x.fdiv<|2^(min y.toNat k.bits))
def Nu(hx:Arg Γ x (TI k m))(hy:Arg Γ y (TI k' n))(h:Hv k m n=some r):bI P Γ ⟨d,.binOp .shl T x y T',ty,pos,af,g⟩ (.val<|TI k r):=
 lW hx hy fun H u v hu hv w _=>by
  cases hu;cases hv;unfold Hv at h;cases hc:decide (n<0)
  ·rw[hc] at h;have:=fj h;subst this;exact⟨_,by simp only[eqGuard,binOp,Op.shift,if_neg<|bP hc];rfl,rfl⟩
  ·rw[hc] at h;cases h
def Gc(hx:Arg Γ x (TI k m))(hy:Arg Γ y (TI k' n))(h:Hu k m n=some r):bI P Γ ⟨d,.binOp .shr T x y T',ty,pos,af,g⟩ (.val<|TI k r):=
 lW hx hy fun H u v hu hv w _=>by
  cases hu;cases hv;unfold Hu at h;cases hc:decide (n<0)
  ·rw[hc] at h;have:=fj h;subst this;exact⟨_,by simp only[eqGuard,binOp,Op.shift,if_neg<|bP hc];rfl,rfl⟩
  ·rw[hc] at h;cases h
def ans:IntKind->IntKind->Bool:=fun a b=>decide<|a=b
def T8(P:arb)(T:aq9)(k:IntKind):Bool:=match P.underlying T with|some (.int k')=>ans k k'|_=>false
def Qi(h:T8 P T k=true):P.underlying T=some (.int k):=by
 unfold T8 at h;split at h
 ·rename_i k' hu;rw[hu,bf h]
 ·cases h
def vQ{S:aq9}(hS:T8 P S k=true)(hT:T8 P T k'=true)(hx:Arg Γ x (TI k n)):bI P Γ ⟨d,.convert S T x,ty,pos,af,g⟩ (.val<|TI k'<|wr k' n):=
 bb fun _ _ _ a w H hs=>by
  have e:a.eval x= .int k n:=hx.ok hs;exact⟨_,by simp[execOp,e,convert,aO<|Qi hS,aO<|Qi hT,Conv.intToInt],rfl,rfl⟩
def Rm{m n:Bool}(hT:Qu P T=true)(hx:Arg Γ x (aY m))(hy:Arg Γ y (aY n)):bI P Γ ⟨d,.binOp .eql T x y T',ty,pos,af,g⟩ (.val<|aY<|m==n):=ahE hT hx hy
def Re{m n:Bool}(hT:Qu P T=true)(hx:Arg Γ x (aY m))(hy:Arg Γ y (aY n)):bI P Γ ⟨d,.binOp .neq T x y T',ty,pos,af,g⟩ (.val<|aY<| !(m==n)):=
 lW hx hy fun H u v hu hv w _=>by
  cases hu;cases hv;have hu:P.underlying T=some .bool:=by
   unfold Qu at hT;split at hT
   ·assumption
   ·cases hT
  refine⟨.bool<| !(m==n),?_,rfl⟩;have e:(Op.equal T (.bool m)<| .bool n).run P w= .ok (m==n) w:=run_equalIn_bool w 9999 T m n hu;simp[eqGuard,binOp,e]
def mx_(x y:Int):Int:=bif decide (x<y) then y else x
def mn_(x y:Int):Int:=bif decide (y<x) then y else x
def Rf(hx:Arg Γ x (TI k m))(hy:Arg Γ y (TI k n)):bI P Γ ⟨d,.call ⟨.builtin .max,#[x,y],r9⟩,ty,pos,af,g⟩ (.val<|TI k<|mx_ m n):=
 bb fun _ _ _ a w H hs=>by
  have e:a.eval x= .int k m:=hx.ok hs;have e2:a.eval y= .int k n:=hy.ok hs;refine⟨.int k<|if n>m then n else m,?_,?_,rfl⟩
  ·simp[execOp,resolve,invoke,builtin,e,e2,Builtin.max_,Builtin.max2]
  ·show Value.int k _=Value.int k _;unfold mx_;cases hc:decide (m<n)
   ·rw[if_neg<|bP hc];rfl
   ·rw[if_pos<|bf hc];rfl
def Xi(hx:Arg Γ x (TI k m))(hy:Arg Γ y (TI k n)):bI P Γ ⟨d,.call ⟨.builtin .min,#[x,y],r9⟩,ty,pos,af,g⟩ (.val<|TI k<|mn_ m n):=
 bb fun _ _ _ a w H hs=>by
  have e:a.eval x= .int k m:=hx.ok hs;have e2:a.eval y= .int k n:=hy.ok hs;refine⟨.int k<|if n<m then n else m,?_,?_,rfl⟩
  ·simp[execOp,resolve,invoke,builtin,e,e2,Builtin.min_,Builtin.min2]
  ·show Value.int k _=Value.int k _;unfold mn_;cases hc:decide (n<m)
   ·rw[if_neg<|bP hc];rfl
   ·rw[if_pos<|bf hc];rfl
structure Sm(P:arb)(f:FuncId)(args:ard Ty)(c6:ard Ty):Prop where
 run:∀(w:apT) (H:HV) (vs:ard apU),BF H args vs->∃v w',(callFunc f vs.toArray).run P w= .ok (.value v) w'/\E0 w.heap.size w w'/\vO H c6 v
def Ad{f:FuncId}(hf:Sm P f args c6)(ha:aJ Γ xs args):
  bI P Γ ⟨d,.call ⟨.value<| .func f,xs.toArray,r9⟩,ty,pos,af,g⟩ (sW c6):=
 iN fun w0 H0 N a w H hs=>by
  obtain⟨v,w',h1,h2,h3⟩:=hf.run w H _<|ha.ok hs
  have e:execOp a.eval ⟨d,.call ⟨.value<| .func f,xs.toArray,r9⟩,ty,pos,af,g⟩=callFunc f (#[]++xs.toArray.map a.eval++ #[]):=rfl;have e2:(#[]++xs.toArray.map a.eval++ #[])=(xs.map a.eval).toArray:=by simp
  refine⟨v,w',H,by rw[e,e2,h1],⟨h2,HV.le.refl _,fun _ _=>rfl,fun r o h=>?_⟩,rL h3,fun b e=>absurd e<|bL.free_spec uy⟩;rw[h2.block r<|wU hs.sub h];exact hs.sub r o h
def Nk{n:Nat}{agg:Bool}(h:dR P T n agg=true){cs:ath apU}(hl:off+n<=cs.size)(w:apT):(part T cs off).run P w= .ok (JF agg ((cs.toList.drop off).take n).toArray) w:=by
 obtain⟨h1,h2,h3⟩:=T5 h;cases agg
 ·have hn:=h3 rfl;subst hn;have hlt:off<cs.size:=by omega
  simp[part,h1,hlt,JF]
 ·simp only[part,eN,h1,h2,eE,if_true,ot,JF]
  congr 2
  apply Array.ext';simp[Array.toList_extract,List.extract_eq_take_drop]
def Od(P:arb)(T F:aq9)(k off:Nat):Bool:=
 match P.underlying T with
 |some (.struct fs)=>match fs[k]? with
  |some f=>Nat.beq f.offset off&&Nat.beq f.type F
  |none=>false
 |_=>false
def BD{F:aq9}{k:Nat}(hT:Od P T F k off=true)(hF:dR P F σ.n σ.agg=true)(ha:τ.agg=true)(hx:Arg Γ x τ)(hp:aP τ off σ):bI P Γ ⟨d,.field T x k,ty,pos,af,g⟩ (.val σ):=
 bb fun _ _ _ a w H hs=>by
  have hv:=hx.ok hs;obtain⟨p1,p2⟩:=hp _ _ hv;have nP:=τ.shape hv;have e:a.eval x= .agg (a.eval x).cells:=by rw[<-show JF τ.agg (a.eval x).cells= .agg (a.eval x).cells from by rw[ha];rfl];exact nP.eq
  unfold Od at hT;split at hT
  ·rename_i fs hu;split at hT
   ·rename_i fd hfd;simp only[bV] at hT;have e1:=fB hT.1;have e2:=fB hT.2;refine⟨_,?_,p2,rfl⟩
    generalize (a.eval x).cells=cs at e p1
    have hr:=Nk (P:=P) hF p1 w;simp only[execOp,e,Instr.field,eN,aO hu,eE,hfd,asAgg,ot,e1,e2,hr]
   ·cases hT
  ·cases hT
def Uw(P:arb)(T E:aq9)(len sz:Nat):Bool:=
 match P.underlying T with
 |some (.array n e)=>Nat.beq n len&&Nat.beq e E&&(match P.info? e with|some i=>Nat.beq i.size sz|none=>false)
 |_=>false
def aP.arr{i:Nat}{y:α}(hf:∀z,(f z).n=sz)(h:l[i]? =some y):aP (aae f l) (i*sz) (f y):=by
 refine aP.agg (i:=i) (by rw[mH,h];rfl) ?_;have hlt:=(iG.1 h).1;rw[hZ<|(lR hf l).take i,List.length_take,fW,fA (by omega)]
def il.arr{i:Nat}{y:α}(hf:∀z,(f z).n=sz)(h:l[i]? =some z):il (aae f l) (i*sz) (f y) (aae f<|l.set i y):=by
 have hlt:=(iG.1 h).1;have:=il.agg (l:=lT f l) (i:=i) (off:=i*sz) (σ:=f y) (ρ:=f z) (by rw[mH,h];rfl) (by rw[hf,hf]) (by rw[hZ<|(lR hf l).take i,List.length_take,fW,fA (by omega)]);rwa [show(lT f l).set i (f y)=lT f (l.set i y) from by simp[lT,xz]] at this
def BC{y:α}(hT:Uw P T E len sz=true)(hE:dR P E (f y).n (f y).agg=true)(hf:∀z,(f z).n=sz)(hlen:l.length=len)(hx:Arg Γ x (aae f l))(hi:Arg Γ ix (TI k i))(h:bm l i=some y):
  bI P Γ ⟨d,.index T x ix,ty,pos,af,g⟩ (.val<|f y):=
 bb fun _ _ _ a w H hs=>by
  obtain⟨h0,h1,h2⟩:=py h;have hv:=hx.ok hs;obtain⟨p1,p2⟩:=aP.arr hf h2 _ _ hv;obtain⟨cs,e,_⟩:=hv;have ei:a.eval ix= .int k i:=hi.ok hs;rw[e] at p1 p2;simp only[Value.cells] at p1 p2;unfold Uw at hT;split at hT
  ·rename_i n el hu;simp only[bV] at hT;obtain⟨⟨e1,e2⟩,e3⟩:=hT;have e1:=fB e1;have e2:=fB e2;subst e2;split at e3
   ·rename_i ii hii;have e3:=fB e3;have hr:=Nk (P:=P) hE p1 w;have hsz:(Go.sizeOf el).run P w= .ok sz w:=by simp[Go.sizeOf,typeInfo,program,Sem.run,hii,e3]
    have hb:0<=i/\i<(n:Int):=⟨h0,by omega⟩;refine⟨_,?_,p2,rfl⟩;simp only[execOp,e,ei,Instr.index,asIntOf,eN,ot,eE,aO hu,if_pos hb,hsz,hr]
   ·cases e3
  ·cases hT
def Rj{y:α}(h:look Γ t=some (.own T'<|aae f l))(hT:yP P T len sz=true)(hlen:l.length=len)(hi:Arg Γ ix (TI k i))(hy:bm l i=some y):
  bI P Γ ⟨d,.indexAddr T (.tmp t) ix,ty,pos,af,g⟩ (.ptr t<|i.toNat*sz):=by
 obtain⟨h0,h1,_⟩:=py hy;exact HO h hT hi h0 (by omega)
def ahB{y:α}(hT:yP P T len sz=true)(hf:∀z,(f z).n=sz)(hlen:l.length=len)(h:Arg Γ x (nm<|aae f l))(hi:Arg Γ ix (TI k i))(hy:bm l i=some y):
  bI P Γ ⟨d,.indexAddr T x ix,ty,pos,af,g⟩ (.val<|nm<|f y):=by
 obtain⟨h0,h1,h2⟩:=py hy;exact Rk h rfl hT hi h0 (by omega)<|aP.arr hf h2
def abd{ps:ard (Nat×arc)}{l l':ard Ty}(hp:iy P Γ ps l l'):p5 l'=p5 l:=by
 induction hp with
 |nil=>rfl
 |cons hx hi hn r ih=>rw[ih,TD hi hn]
def Wz{n:Nat}{ps:ard (Nat×arc)}{l':ard Ty}(hz:bJ P E τ)(hT:oU P T E sz=true)(hsz:τ.n=sz)(hpos:Nat.blt 0 (n*sz)=true)(hn:Nat.ble (n*sz) 16777216=true)(hp:iy P Γ ps (List.replicate n τ) l')(hl:l'.length=n):
  bI P Γ ⟨d,.buildSlice T n ps.toArray,ty,pos,af,g⟩ (.buf E sz l'):=
 iN fun w0 H0 N a w H hs=>by
  obtain⟨z,Sr,UT⟩:=hz.run w;have agE:=bU hpos;unfold oU at hT;split at hT
  ·rename_i e hu;simp only[bV] at hT;obtain⟨h1,h2⟩:=hT;have h1:=fB h1;subst h1;split at h2
   ·rename_i i hi;have h2:=fB h2;have hz0:=Mn (UT H) n;rw[hsz] at hz0;have Pk:∀i m,(p5<|List.replicate n τ)[i]? =some m->(fun i=>some (i*sz,sz)) i=some (((p5<|List.replicate n τ).take i).sum,m):=by
     intro i m hi;simp only[p5,LX,List.getElem?_replicate] at hi;split at hi
     ·rename_i hlt;simp at hi;subst hi;simp[p5,LX,Iz,hsz,fA<|Ex hlt]
     ·cases hi
    obtain⟨kH,hf,gq⟩:=hp.fill Pk hs hz0;have e2:(ps.toArray.map fun(i,x)=>(i,a.eval x)).toList=ps.map fun p=>(p.1,a.eval p.2):=by simp
    have wa:(Go.sizeOf e).run P w= .ok sz w:=by simp[Go.sizeOf,typeInfo,program,Sem.run,hi,h2]
    have hle:n*sz<=16777216:=gj hn;have hff:Instr.fill (fun i=>some (i*sz,sz)) ((Array.range<|n*sz).map<|fun i=>z.cells[i%z.cells.size]!) (ps.toArray.map fun(i,x)=>(i,a.eval x)).toList=some kH:=by
     rw[e2];exact hf
    have hb:E0 w.heap.size w (w.alloc<| .cells kH e):=E0.alloc _;have ak2:=nB gq;have hns:p5 l'=p5 (List.replicate n τ):=abd hp;have hcl:cw l'=n*sz:=by
     have:cw l'=(p5 l').sum:=rfl;rw[this,hns];simp[p5,hsz]
    have hcs:kH.size=n*sz:=by rw[<-hcl,<-ak2];simp
    refine⟨.slice (some ⟨w.heap.size,0,none⟩) n n,w.alloc<| .cells kH e,H,?_,Ext.alloc hs.sub _,⟨kH.toList,⟨by rw[hl];simpa using hcs,.inr ⟨w.heap.size,n,kH,by rw[hl],jc _,rO w _,by omega,?_,hcs,?_⟩⟩,gq,?_⟩,?_⟩
    ·have h0: ¬n*sz=0:=by omega
     simp only[execOp,Instr.buildSlice,eN,eE,aO hu,wa];rw[if_neg (by omega)];simp only[eN,ot,eE,if_neg h0,Sr];rw[hff];simp[newRow]
    ·rw[P9];have:n<=n*sz:=by
      rcases wH sz with h|h
      ·subst h;simp at agE
      ·exact Nat.le_mul_of_pos_right n h
     omega
    ·rw[hl,eJ (by simp;omega)]
    ·intro b hb;simp[Value.ownBlock] at hb;subst hb;refine⟨?_,.inl hs.below.size⟩;cases hh:H w.heap.size with
     |none=>rfl
     |some o=>have:=wU hs.sub hh;omega
    ·intro b hb;simp[bL.owns,Value.ownBlock] at hb;omega
   ·cases h2
  ·cases hT
def not_true(h:(!b)=true):b=false:=by cases b<;>simp_all
def bF{y:α}(h:bm l i=some y):l[i.toNat]? =some y:=(py h).2.2
def ahV{y:α}{n:Nat}(e:l.length=n)(h:bm l i=some y):i<n:=by
 have:=(py h).2.1;omega
def uc{l:ard Ty}(h:τ.n=sz)(r:GK sz l):GK sz (τ::l):=fun x hx=>by
 rcases bM.1 hx with e|hx
 ·rw[e];exact h
 ·exact r x hx
def un:GK sz []:=fun x hx=>by cases hx
def Sat.aa3(hs:Sat w0 H0 N Γ a w H){s:bL}(h:s.holds w0 a w H (aV a t))(hb:s.free=true):Sat w0 H0 N ((t,s)::bN t Γ) a w H:=by
 refine⟨hs.nd,hs.sz,hs.below,hs.I7,hs.sub,?_,?_,hs.gl⟩
 ·intro p hp;rcases bM.1 hp with e|hp
  ·subst e;exact h
  ·exact hs.holds p (bG p hp).1
 ·intro p hp q hq hne b hpb;rcases bM.1 hp with e|hp
  ·subst e;exact absurd hpb<|bL.free_spec hb
  ·rcases bM.1 hq with e|hq
   ·subst e;exact bL.free_spec hb
   ·exact hs.sep p (bG p hp).1 q (bG q hq).1 hne b hpb
def jL{s:Nat}(hs:look Γ s=some (.same t))(ht:look Γ t=some (.val τ)):qj w0 N Γ ((s,.val τ)::bN s Γ):=fun _ _ _ H h=>by
 have e:=h.holds _<|ay hs
 have k:=h.holds _<|ay ht
 exact⟨H,h.aa3 (by show τ.ok H _;rw[show _=_ from e];exact k) rfl⟩
def apF{Fl:Ty}(ht:look Γ t=some (.val τ))(hi:∀H v,τ.ok H v->Fl.ok H v):qj w0 N Γ ((t,.val Fl)::bN t Γ):=fun _ _ _ H h=>
 ⟨H,h.aa3 (hi _ _<|h.holds _<|ay ht) rfl⟩
def US(ht:look Γ t=some (.val<|TN f l)):qj w0 N Γ ((t,.val<|TL f l)::bN t Γ):=apF ht Yk
def Arg.c(h:v.oneCell'=true):Arg Γ (.const v) (iv 1 false):=⟨fun _=>Shape.one h⟩
def zTL:(TL f []).ok H (.slice none 0 0):=⟨none,0,rfl,bC _,fun h=>absurd rfl h⟩
def zTN:(TN f []).ok H (.slice none 0 0):=⟨zTL,fun _=>rfl⟩
def iQ{n:Nat}{agg:Bool}(h:(Nat.beq v.cells.size n&&v.cells.toList.all (fun c=>c.oneCell'))=true)(e:v=JF agg v.cells):Shape n agg v:=by
 simp only[bV] at h;exact⟨fB h.1,fun c hc=>db.1 h.2 c hc,e⟩
def Bn{α:Type}(i k:Int)(y x:α):α:=bif decide (i=k) then y else x
def il.acY{a b c y:α}(hf:∀z,(f z).n=sz)(h:bm [a,b,c] i=some z):il (fJ [f a,f b,f c]) (i.toNat*sz) (f y) (fJ [f<|Bn i 0 y a,f<|Bn i 1 y b,f<|Bn i 2 y c]):=by
 obtain⟨h0,h1,h2⟩:=py h;have:=il.arr (y:=y) hf h2;simp only[List.length_cons,BY] at h1;have hi:i=0\/i=1\/i=2:=by omega
 rcases hi with e|e|e<;>(subst e;exact this)
def ahC{t' o n:Nat}(h:look Γ t=some (.ptr t' o))(hT:yP P T n sz=true)(hi:Arg Γ ix (TI k i))(h0:0<=i)(h1:i<n):
  bI P Γ ⟨d,.indexAddr T (.tmp t) ix,ty,pos,af,g⟩ (.ptr t'<|o+i.toNat*sz):=cg h hT hi h0 h1
def Dk{f:FuncId}(hc:dY P f=true)
 (h:∀(H:HV) (vs:ard apU),BF H args vs->∃Qv wY,BF H Qv vs/\al P f Qv (.vs wY)/\∀H' v,vO H' wY v->vO H' c6 v):al P f args (.vs c6):=
 ⟨hc,fun w H vs sub gl gq=>by
  obtain⟨Qv,wY,h1,h2,h3⟩:=h H vs gq;exact(h2.run w H vs sub gl h1).mono fun _ w' ⟨v,e,hb,H',k1,k2,k3⟩=>⟨v,e,hb,H',k1,k2,h3 H' v k3⟩⟩
structure GM{α:Type}[DecidableEq α](P:arb)(T:aq9)(f:α->Ty):Prop where
 run:∀(H:HV) (u v:apU) (x y:α),(f x).ok H u->(f y).ok H v->∀w:apT,(Op.equal T u v).run P w= .ok (decide<|x=y) w
 guard:∀(H:HV) (u v:apU) (x y:α),(f x).ok H u->(f y).ok H v->∀(o:BinOp) (p q:arc) (w:apT),(eqGuard o T p q u v).run P w= .ok () w
 agg:∀x,(f x).agg=true
def Rn[DecidableEq α]{m n:α}(h:GM P T f)(hx:Arg Γ x (f m))(hy:Arg Γ y (f n)):bI P Γ ⟨d,.binOp .eql T x y T',ty,pos,af,g⟩ (.val<|aY<|decide<|m=n):=
 lW hx hy fun H u v hu hv w _=>by
  have e1:=h.run H u v m n hu hv w;have e2:=h.guard H u v m n hu hv .eql x y w;refine⟨.bool<|decide<|m=n,?_,rfl⟩;have a1:=((f m).shape hu).eq;have a2:=((f n).shape hv).eq;rw[h.agg] at a1 a2;simp only[JF] at a1 a2;simp only[eN,e2,eE];rw[a1,a2] at e1⊢;simp[binOp,e1]
def Vz[DecidableEq α]{m n:α}(h:GM P T f)(hx:Arg Γ x (f m))(hy:Arg Γ y (f n)):bI P Γ ⟨d,.binOp .neq T x y T',ty,pos,af,g⟩ (.val<|aY<| !decide (m=n)):=
 lW hx hy fun H u v hu hv w _=>by
  have e1:=h.run H u v m n hu hv w;have e2:=h.guard H u v m n hu hv .neq x y w;refine⟨.bool<| !decide (m=n),?_,rfl⟩;have a1:=((f m).shape hu).eq;have a2:=((f n).shape hv).eq;rw[h.agg] at a1 a2;simp only[JF] at a1 a2;simp only[eN,e2,eE];rw[a1,a2] at e1⊢;simp[binOp,e1]
def aL:ard Int->Int
 |[]=>0
 |x::l=>x+18446744073709551616*aL l
def okW(l:ard Int):Prop:=∀x∈l,0<=x/\x<18446744073709551616
@[reducible] def aZ(x:Int×ard Int):Ty:=fJ [(TI .i64) x.1,(TN<|TI .u64) x.2]
def qI(r:Int×ard Int)(z:Int):Prop:=
 (r.2=[]/\r.1=z/\CU z)\/(r.2≠[]/\(r.1=1\/r.1= -1)/\okW r.2/\r.2.getLast?≠some 0/\z=r.1*aL r.2/\9223372036854775807<aL r.2)
def mP(z:Int):Ty:=TEx 2 true (fun r=>qI r z) aZ (fun _=>rfl)<|fun _=>rfl
@[reducible] def aX(q:Rat):Ty:=fJ [mP q.num,mP q.den]
def qP{k:Nat}(h:look Γ p=some (.CQ t j sz))(hf:jf P T k off=true):bI P Γ ⟨d,.fieldAddr T (.tmp p) k,ty,pos,af,g⟩ (.bpf t<|j*sz+off):=
 bb fun _ _ _ a w _ hs=>by
  obtain⟨b,len,cap,e1,e2⟩:=hs.holds _<|ay h
  have e':a.eval (.tmp p)= .pointer (some ⟨b,j*sz,none⟩):=e2;exact⟨.pointer<|some ⟨b,j*sz+off,none⟩,by simp[execOp,e',za hf],⟨b,len,cap,e1,rfl⟩,rfl⟩
def afW{B:aq P}{l:ard Ty}{ρ:Ty}(h:(bL.buf E sz l).holds B a w H v)(hu:GK sz l)(hj:l[j]? =some ρ):
  ∃b cap cs,v= .slice (some ⟨b,0,none⟩) l.length cap/\w.heap[b]? =some (.cells cs E (0,0))/\j*sz+sz<=cs.size/\ρ.ok H (JF ρ.agg ((cs.toList.drop<|j*sz).take ρ.n).toArray):=by
 have OP:=(iG.1 hj).1;obtain⟨b,cap,cs,xs,e,hb,hcap,_,hcs,hx,htake,ho,_,_⟩:=Bf h (fun e=>by rw[e] at OP;simp at OP);obtain⟨p1,p2⟩:=nL ho hj;have hρ:=hu ρ<|B6 hj
 have hc:cw (l.take j)=j*sz:=by rw[hZ<|hu.take _,List.length_take,fA (by omega)]
 rw[hc] at p1 p2;have XR:l.length*sz<=cs.size:=by rw[hcs];exact mI _ hcap
 have Gn:List.take ρ.n (List.drop (j*sz) cs.toList)=List.take ρ.n (List.drop (j*sz) xs):=by
  rw[<-htake,tv,uM]
  congr 1;omega
 refine⟨b,cap,cs,e,hb,by omega,?_⟩;rw[Gn];exact p2
def ze{y:α}(hf:∀z,(f z).n=sz)(hp:look Γ p=some (.bpf t<|j*sz+off))(ht:look Γ t=some (.buf E sz<|lT f l))(h:l[j]? =some y)(ha:(f y).agg=true)(hq:aP (f y) off σ)(hT:dR P T σ.n σ.agg=true):
  bI P Γ ⟨d,.load T<| .tmp p,ty,pos,af,g⟩ (.val σ):=
 bb fun w0 _ _ a w H cn=>by
  obtain⟨b,cap,cs,e,hb,hsz,gq⟩:=afW (cn.holds _<|ay ht) (lR hf l) (j:=j) (ρ:=f y) (by rw[mH,h];rfl);obtain⟨b',ahM,Z9,e1,e2⟩:=cn.holds _<|ay hp
  simp only at e e1;rw[e] at e1;cases e1;have e3:a.eval (.tmp p)= .pointer (some ⟨b,j*sz+off,none⟩):=e2;rw[ha] at gq;obtain⟨h1,h2⟩:=hq _ _ gq;simp only[ri] at h1 h2;have hn:=hf y;have hlen:(List.take (f y).n<|List.drop (j*sz) cs.toList).toArray.size=(f y).n:=by simp;omega
  rw[hlen] at h1;refine⟨_,?_,h2,rfl⟩;have hr:=lD (P:=P) hT hb (off:=j*sz+off) (by omega);have Gn:List.take σ.n (List.drop (j*sz+off) cs.toList)=List.take σ.n (List.drop off<|List.take (f y).n<|List.drop (j*sz) cs.toList):=by
   rw[tv,uM,iF]
   congr 1;omega
  rw[Gn] at hr;simp[execOp,e3,Instr.loadAt,Instr.sureAddr,hr]
def aew{c8:Ctx}(bO:∀q∈c8,q∈Γ){y y':α}(hf:∀z,(f z).n=sz)(hp:look c8 p=some (.bpf t<|j*sz+off))(ht:look c8 t=some (.buf E sz<|lT f l))(h:l[j]? =some y)(hx:Arg c8 x σ)(ha:(f y).agg=true)(hs:il (f y) off σ (f y'))(hT:dR P T σ.n σ.agg=true):
  Step P N ops ⟨none,.store T (.tmp p) x,ty,pos,af,none⟩ Γ ((t,.buf E sz<|lT f<|l.set j y')::bN t Γ):=by
 intro w0 H0 a w H cn K Q k;simp only[Region.wanted,if_true];have hj:(lT f l)[j]? =some (f y):=by rw[mH,h];rfl
 have hu:=lR hf l;have OP:=(iG.1 hj).1;obtain⟨b,cap,cs,xs,e,hb,hcap,Lc,hcs,FT,htake,ho,hH,hB⟩:=Bf (cn.holds _<|bO _<|ay ht) (fun e=>by rw[e] at OP;simp at OP);obtain⟨b',ahM,Z9,e1,e2⟩:=cn.holds _<|bO _<|ay hp
 simp only at e e1;rw[e] at e1;cases e1;have ep:a.eval (.tmp p)= .pointer (some ⟨b,j*sz+off,none⟩):=e2;have FR:=hx.ok<|cn.weaken bO
 have nP:=σ.shape FR;have hc:cw ((lT f l).take j)=j*sz:=by rw[hZ<|hu.take _,List.length_take,fA<|Ex OP]
 obtain⟨p1,p2⟩:=nL ho hj;rw[hc,hf y] at p1;rw[hc,hf y] at p2;have XR:(lT f l).length*sz<=cs.size:=by rw[hcs];exact mI _ hcap
 generalize Gn:List.take sz (List.drop (j*sz) xs)=S9 at p2
 have XI:S9.length=sz:=by rw[<-Gn];simp;omega
 rw[ha] at p2;obtain⟨s1,x',s2,s3⟩:=hs _ _ _ p2 FR;simp only[ri,Iy,XI] at s1;simp only[ri] at s3;have tX:=BH ho hj ((hf y').trans (hf y).symm) s2;rw[hc,hf y] at tX;have qb:=lr (P:=P) (off:=j*sz+off) (A5 hT) nP.size hb (by omega) nP.cell;unfold Oper.wp;have er:(execOp a.eval ⟨none,.store T (.tmp p) x,ty,pos,af,none⟩).run P w= .ok .skip (w.setRow b (cs.toList.take (j*sz+off)++(a.eval x).cells.toList++cs.toList.drop (j*sz+off+σ.n)).toArray):=by
  simp[execOp,ep,Instr.storeAt,Instr.sureAddr,qb]
 rw[er,vA]
 generalize acp:(cs.toList.take (j*sz+off)++(a.eval x).cells.toList++cs.toList.drop (j*sz+off+σ.n)).toArray=AA
 have hg:zM w (w.setRow b AA) (some b):=zM.setRow w b _;have hlen:(a.eval x).cells.toList.length=σ.n:=by rw[gi,nP.size]
 have anE:x'.cells.toList=List.take off S9++(a.eval x).cells.toList++List.drop (off+σ.n) S9:=by rw[s3]
 have alo:AA.toList=cs.toList.take (j*sz+off)++(a.eval x).cells.toList++cs.toList.drop (j*sz+off+σ.n):=by rw[<-acp]
 refine k a _ H (iK cn (bO _<|ay ht) hg hB (by simp[bL.owns,e,Value.ownBlock]) ?_ fun c hc=> .inl hc);have St:(lT f<|l.set j y').length=(lT f l).length:=by simp
 have aln:AA.size=cs.size:=by
  rw[<-gi,alo];simp only[List.length_append,List.length_take,hlen,mG,gi];omega
 refine⟨List.take ((lT f l).length*sz) AA.toList,⟨?_,.inr ⟨b,cap,AA,by rw[St];simpa using e,jc _,Eu w b _ _ _ _ hb,by rw[St];exact hcap,Lc,by rw[aln,hcs],by rw[St]⟩⟩,?_,?_⟩
 ·rw[St];show(List.take ((lT f l).length*sz) AA.toList).length=(lT f l).length*sz;rw[List.length_take,gi (xs:=AA),aln];exact fA XR
 ·have akX:List.take ((lT f l).length*sz) AA.toList=List.take (j*sz) xs++x'.cells.toList++List.drop (j*sz+sz) xs:=by
   have hy:(a.eval x).cells.toList.length=σ.n:=hlen;rw[alo,SY hy (by omega) (by rw[gi];omega),htake,anE];have t1:List.take (j*sz+off) xs=List.take (j*sz) xs++List.take off S9:=by
    rw[List.take_add,<-Gn,uM,fA (by omega)]
   have t2:List.drop (j*sz+off+σ.n) xs=List.drop (off+σ.n) S9++List.drop (j*sz+sz) xs:=by
    rw[<-Gn,tv,iF];have:List.drop (j*sz+sz) xs=List.drop (sz-(off+σ.n)) (List.drop (j*sz+(off+σ.n)) xs):=by
     rw[iF];congr 1;omega
    rw[this,yI]
    congr 1;omega
   rw[t1,t2];simp[rQ]
  rw[akX];rw[show lT f (l.set j y')=(lT f l).set j (f y') from by simp[lT,xz]];exact tX
 ·intro c hc;simp[e,Value.ownBlock] at hc;subst hc;exact⟨hH,hB⟩
def ahe{y y':α}(hf:∀z,(f z).n=sz)(hp:look Γ p=some (.bpf t<|j*sz+off))(ht:look Γ t=some (.buf E sz<|lT f l))(h:l[j]? =some y)(hx:Arg Γ x σ)(ha:(f y).agg=true)(hs:il (f y) off σ (f y'))(hT:dR P T σ.n σ.agg=true):
  Step P N ops ⟨none,.store T (.tmp p) x,ty,pos,af,none⟩ Γ ((t,.buf E sz<|lT f<|l.set j y')::bN t Γ):=aew (fun _ h=>h) hf hp ht h hx ha hs hT
def aaZ(hT:oU P T E sz=true)(w:apT):(Instr.buildSlice T 0 #[]).run P w= .ok (.slice (some ⟨w.heap.size,0,none⟩) 0 0) (w.alloc<| .cells #[] E):=by
 unfold oU at hT;split at hT
 ·rename_i e hu;simp only[bV] at hT;obtain⟨h1,h2⟩:=hT;have h1:=fB h1;subst h1;split at h2
  ·rename_i i hi;have h2:=fB h2;have wa:(Go.sizeOf e).run P w= .ok sz w:=by simp[Go.sizeOf,typeInfo,program,Sem.run,hi,h2]
   have VZ:(Array.range 0:ath Nat)= #[]:=rfl;simp only[Instr.buildSlice,eN,eE,aO hu,wa,LJ];rw[if_neg (by omega)];simp[newRow,Instr.fill,VZ]
  ·cases h2
 ·cases hT
def IW(f:α->Ty)(hT:oU P T E sz=true):bI P Γ ⟨d,.buildSlice T 0 #[],ty,pos,af,g⟩ (.buf E sz<|lT f []):=
 iN fun w0 H0 N a w H hs=>by
  refine⟨.slice (some ⟨w.heap.size,0,none⟩) 0 0,w.alloc<| .cells #[] E,H,by simp only[execOp,eN,Array.map_empty,aaZ hT];rfl,Ext.alloc hs.sub _,⟨[],⟨by simp,.inr ⟨w.heap.size,0,#[],rfl,jc _,rO w _,bC _,by rw[P9];omega,by simp,by simp⟩⟩,rfl,?_⟩,?_⟩
  ·intro b hb;simp[Value.ownBlock] at hb;subst hb;refine⟨?_,.inl hs.below.size⟩;cases hh:H w.heap.size with
   |none=>rfl
   |some o=>have:=wU hs.sub hh;omega
  ·intro b hb;simp[bL.owns,Value.ownBlock] at hb;omega
def Zf{T:Nat}{l:ard Ty}(hT:yP P T len sz=true)(hu:GK sz l)(hl:l.length=len)(hx:Arg Γ x (nm<|fJ l)):bI P Γ ⟨d,.slice T x none none none,ty,pos,af,g⟩ (.val<|I8 l):=
 bb fun w0 _ _ a w H hs=>by
  obtain⟨b,off,cs,E,fr,e,hb,hsz,gq⟩:=hx.ok hs;obtain⟨el,i,hu2,hi,h2⟩:=OC hT;have wa:∀w,(Go.sizeOf el).run P w= .ok sz w:=fun w=>by simp[Go.sizeOf,typeInfo,program,Sem.run,hi,h2]
  refine⟨.slice (some<|if len=0 then⟨b,off,none⟩ else(⟨b,off,none⟩:Addr).add (0*sz)) len len,?_,?_,rfl⟩
  ·simp[execOp,e,Instr.sliceAt,aO hu2,Instr.sureAddr,Instr.sliceBounds,wa]
  ·obtain⟨cs2,e2,ho⟩:=gq;have aox:cs2=(List.take (fJ l).n<|List.drop off cs.toList).toArray:=by
    have:(fJ l).agg=true:=rfl;rw[this] at e2;simp only[JF] at e2;exact(Value.agg.inj e2).symm
   refine⟨_,len,by rw[hl],by omega,fun hne=>⟨b,off,cs,E,fr,?_,hb,hsz,?_⟩⟩
   ·simp[addr_add]
   ·rw[aox] at ho;exact ho
def Flat(τ:Ty):Prop:=∀H H' v,τ.ok H v->τ.ok H' v
def Flat.int:Flat (TI k n):=fun _ _ _ h=>h
def Flat.bool:Flat (aY b):=fun _ _ _ h=>h
inductive zQ(Γ:Ctx):ard arc->ard Ty->Prop where
 |nil:zQ Γ [] []
 |cons {x:arc} {τ:Ty} {xs:ard arc} {l:ard Ty} (h:Arg Γ x τ) (r:zQ Γ xs l):zQ Γ (x::xs) (τ::l)
 |buf {t:Nat} {E:aq9} {sz:Nat} {bl:ard Ty} {xs:ard arc} {l:ard Ty} (h:look Γ t=some (.buf E sz bl)) (r:zQ Γ xs l):zQ Γ (.tmp t::xs) (I8 bl::l)
 |same {s t:Nat} {E:aq9} {sz:Nat} {bl:ard Ty} {xs:ard arc} {l:ard Ty} (hs:look Γ s=some (.same t)) (h:look Γ t=some (.buf E sz bl)) (r:zQ Γ xs l):zQ Γ (.tmp s::xs) (I8 bl::l)
def full(w:apT):HV:=fun r=>w.heap[r]?
def zQ.ok{xs:ard arc}{l:ard Ty}(h:zQ Γ xs l){w0:aq P}{H0:HV}{N:Nat}{a:Act}{w:apT}{H:HV}(hs:Sat w0 H0 N Γ a w H):BF (full w) l (xs.map a.eval):=by
 have hle:HV.le H (full w):=hs.sub
 induction h with
 |nil=>rfl
 |cons h _ ih=>exact⟨_,_,rfl,Ty.mono _ hle<|h.ok hs,ih⟩
 |buf h _ ih=>exact⟨_,_,rfl,Cl (hs.holds _<|ay h) hle<|fun b _ _ o ho=>ho,ih⟩
 | @same s t E sz bl xs l hsm h _ ih=>
  refine⟨_,_,rfl,?_,ih⟩;have e:aV a s=aV a t:=hs.holds _<|ay hsm
  show(I8 bl).ok _ (aV a s);rw[e];exact Cl (hs.holds _<|ay h) hle<|fun b _ _ o ho=>ho
def Tz{H H':HV}:∀{l:ard Ty} {vs:ard apU},(∀τ∈l,Flat τ)->BF H l vs->BF H' l vs
 |[],_,_,e=>e
 |τ::_,_,hf,⟨v,rest,e,hv,hr⟩=>⟨v,rest,e,hf τ (by simp) _ _ _ hv,Tz (fun x hx=>hf x (by simp[hx])) hr⟩
def Vs{H':HV}{l:ard Ty}(hf:∀τ∈l,Flat τ)(h:vO H l v):vO H' l v:=by
 match l,h with
 |[],h=>exact h
 |[τ],h=>exact hf τ (by simp) _ _ _ h
 |τ::Fl::l,⟨vs,e,h⟩=>exact⟨vs,e,Tz hf h⟩
def Zh{f:FuncId}(hf:al P f args (.vs c6))(ha:zQ Γ xs args)(hfl:∀τ∈c6,Flat τ):
  bI P Γ ⟨d,.call ⟨.value<| .func f,xs.toArray,r9⟩,ty,pos,af,g⟩ (sW c6):=by
 intro w0 H0 N a w H hs K Q k;unfold Oper.wp;have e:execOp a.eval ⟨d,.call ⟨.value<| .func f,xs.toArray,r9⟩,ty,pos,af,g⟩=callFunc f (#[]++xs.toArray.map a.eval++ #[]):=rfl;rw[e,jo hf.can,BZ];have e2:(#[]++xs.toArray.map a.eval++ #[])=(xs.map a.eval).toArray:=by simp
 rw[e2];refine(hf.run w (full w) _ (fun _ _ h=>h) (hs.gl.mono hs.sub)<|ha.ok hs).mono ?_;rintro e w' ⟨v,rfl,hb,H',h1,h2,h3⟩;have he:Ext w H w' H:=⟨hb,HV.le.refl _,fun _ _=>rfl,fun r o h=>by rw[hb.block r<|wU hs.sub h];exact hs.sub r o h⟩;exact k v w' H he (rL<|Vs hfl h3)<|fun b e=>absurd e<|bL.free_spec uy
def flc{l:ard Ty}(h:Flat τ)(r:∀x∈l,Flat x):∀x∈τ::l,Flat x:=fun x hx=>by
 rcases bM.1 hx with e|hx
 ·rw[e];exact h
 ·exact r x hx
def fln:∀x∈([]:ard Ty),Flat x:=fun x hx=>by cases hx
end
section
variable[D:DR]
variable{P:Program}{w0:aq P}{H0:HV}{N:Nat}{Q:Exit->Act->World->Prop}{Γ az:Ctx}
def Uu{w0:aq P}(hr:w0.rd=none):hC w0.rd=Fence.wide:=by rw[hr];rfl
def afN{c:Code}(hr:w0.rd=none)(h:Goal P w0 H0 N c (Exit.noGoto Q) Γ):Goal P w0 H0 N (.scope c) Q Γ:=fun a w H hs=>by
 have:=h a w H hs;rw[Uu hr] at this⊢;exact wpIn_wide.2<|wp_scope_straight<|wpIn_wide.1 this
def afO{l:Nat}(k:lV w0 H0 N (Q .normal) Γ):Goal P w0 H0 N (.label l) Q Γ:=fun a w H hs=>wpIn_label<|k a w H hs
end
section
variable[D:DR]
variable{P:Program}{N:Nat}{ops:Array Oper}{Γ az:Ctx}{d:Option Tmp}{ty:TypeId}{pos:String}{af:Array Edge}{g:Option (Nat×Bool)}
variable{xs:ard arc}{f:FuncId}{t:Nat}{r9:ath aq9}{α β:Type}{A:α->ard Ty}{R:β->ard Ty}{dd:Nat}{E:aq9}{sz:Nat}{bl args c6:ard Ty}
def Fj(P:arb){α β:Type}(A:α->ard Ty)(R:β->ard Ty)(g:α->atg β):Ty where
 n:=1
 agg:=false
 ok:=fun H v=>∃f cap oT,v= .func (.func f) #[] cap/\BF H oT cap.toList/\∀a r,g a=some r-> @al DR.strict P f (A a++oT) (.vs<|R r)
 mono:=fun h ⟨f,cap,oT,e,k,hf⟩=>⟨f,cap,oT,e,DC h k,hf⟩
 shape:=fun⟨_,_,_,e,_,_⟩=>by subst e;exact Shape.one rfl
def yd{H:HV}:∀{l:ard Ty} {vs:ard apU} {l':ard Ty} {vs':ard apU},BF H l vs->BF H l' vs'->BF H (l++l') (vs++vs')
 |[],_,_,_,e,h=>by subst e;exact h
 |_::_,_,_,_,⟨v,rest,e,hv,hr⟩,h=>by subst e;exact⟨v,_,rfl,hv,yd hr h⟩
def qQ{fn:α->atg β}{x:α}{r:β}(hf:look Γ t=some (.val<|Fj P A R fn))(h:fn x=some r)(ha:aJ Γ xs (A x)):
  bI P Γ ⟨d,.call ⟨.value<| .tmp t,xs.toArray,r9⟩,ty,pos,af,g⟩ (sW<|R r):=by
 intro w0 H0 N a w H hs K Q k;obtain⟨f,cap,oT,e,hc,K8⟩:=hs.holds _<|ay hf
 have hf:=(K8 x r h).am8 (D:=D);unfold Oper.wp;have e1:a.eval (.tmp t)= .func (.func f) #[] cap:=e;have e0:execOp a.eval ⟨d,.call ⟨.value<| .tmp t,xs.toArray,r9⟩,ty,pos,af,g⟩=callFunc f (#[]++xs.toArray.map a.eval++cap):=by
  simp only[execOp,resolve,e1,Deferred.ofValue,pure_bind]
  rfl
 rw[e0,jo hf.can,BZ];have e2:(#[]++xs.toArray.map a.eval++cap)=(xs.map a.eval++cap.toList).toArray:=by simp
 rw[e2];refine(hf.run w H _ hs.sub hs.gl<|yd (ha.ok hs) hc).mono ?_;rintro e w' ⟨v,rfl,hb,H',h1,h2,h3⟩;have he:Ext w H w' H':=⟨hb,fun r o h=>by rw[h1 r<|wU hs.sub h];exact h,h1,h2⟩;exact k v w' H' he (rL h3)<|fun b e=>absurd e<|bL.free_spec uy
def zd{fn:α->atg β}{oT:ard Ty}(ha:aJ Γ xs oT)(h:∀a r,fn a=some r-> @al DR.strict P f (A a++oT) (.vs<|R r)):
  bI P Γ ⟨d,.makeFunc (.func f) #[] xs.toArray,ty,pos,af,g⟩ (.val<|Fj P A R fn):=
 bb fun _ _ _ a w H hs=>by
  refine⟨.func (.func f) #[] (xs.map a.eval).toArray,?_,⟨f,_,oT,rfl,by simpa using ha.ok hs,h⟩,rfl⟩;simp[execOp,Instr.makeFunc]
def Arg.fn{α β:Type}{A:α->ard Ty}{R:β->ard Ty}{fn:α->atg β}{f:FuncId}(h:∀a r,fn a=some r-> @al DR.strict P f (A a) (.vs<|R r)):Arg Γ (.func f) (Fj P A R fn):=
 ⟨fun _=>⟨f,#[],[],rfl,rfl,fun a r e=>by simpa using h a r e⟩⟩
structure EZ(P:arb)(f:FuncId)(E:aq9)(sz:Nat)(bl:ard Ty)(args:ard Ty)(c6:ard Ty):Prop where
 can:dY P f=true
 run:∀(w:apT) (H:HV) (v:apU) (xs:ard apU) (vs:ard apU),(∀r o,H r=some o->w.heap[r]? =some o)->pI P H->w.ownsRow 0 E sz v bl.length xs->uD H bl xs->(∀b,v.ownBlock=some b->H b=none)->BF H args vs->
  Calls P f (v::vs).toArray w fun e w'=>∃r,e= .returned r/\zM w w' v.ownBlock/\∃H',HV.le H H'/\(∀b,b<w.heap.size->v.ownBlock≠some b->H' b=H b)/\(∀b o,H' b=some o->w'.heap[b]? =some o)/\vO H' c6 r
def Tb{w0:aq P}{H0:HV}{a:Act}{w w':apT}{H H':HV}{row:atg Nat}(hs:Sat w0 H0 N Γ a w H)(hg:zM w w' row)(tN:∀b,row=some b->w0.mg b/\H b=none/\∀l,w.heap[b]? ≠some (.deferred l))(hle:HV.le H H')(hold:∀b,b<w.heap.size->row≠some b->H' b=H b)(bO:∀b o,H' b=some o->w'.heap[b]? =some o)
  (hn:∀p∈az,p∈Γ/\∀b,p.2.owns w (aV a p.1) b->row≠some b):Sat w0 H0 N az a w' H':=by
 have kF:∀b,b<w.heap.size->row≠some b->w'.heap[b]? =w.heap[b]? /\H' b=H b:=fun b hb hn=>⟨hg.block b hb<|fun e=>hn e.symm,hold b hb hn⟩
 refine AS (ds:=a.defers) hs (hs.below.AN hg<|fun k hk=>(tN k hk).1) hg.drawn ?_ hg.size hle bO ?_ ?_ ?_
 ·intro _ r hr hx;exact hold r (nD hr hs.below.size) (fun e=>by
   rcases(tN r e).1 with h|h
   ·omega
   ·exact hx h)
 ·intro _ b hb FU;exact kF b hb (fun e=>by have:=aq.xp (tN b e).1;omega)
 ·intro p hp;exact⟨(hn p hp).1,fun b hb=>kF b (bL.lE (hs.holds p (hn p hp).1) hb).1<|(hn p hp).2 b hb⟩
 ·exact hs.nd.kept fun D _ h1 h2=>by
   have:=kF D (lt_of_heap h1)<|fun e=>(tN D e).2.2 _ h1
   exact⟨by rw[this.1];exact h1,by rw[this.2];exact h2⟩
def ZR{s:arc}(A7:EZ P f E sz bl args c6)(hs:s= .tmp t\/∃u,s= .tmp u/\look Γ u=some (.same t))(ht:look Γ t=some (.buf E sz bl))(ha:aJ Γ xs args)(na:dd<N):
  Py P N ops Γ ⟨some dd,.call ⟨.value<| .func f,(s::xs).toArray,r9⟩,ty,pos,af,none⟩ t dd (sW c6):=by
 intro sI bO w0 H0 a w H cn K Q k;simp only[Region.wanted,if_true];have hb:=cn.holds _<|bO _<|ay ht
 obtain⟨ys,hr,ho,hn⟩:=hb;have es:a.eval s=aV a t:=by
  rcases hs with rfl|⟨u,rfl,hu⟩
  ·rfl
  ·exact cn.holds _<|bO _<|ay hu
 have e0:execOp a.eval ⟨some dd,.call ⟨.value<| .func f,(s::xs).toArray,r9⟩,ty,pos,af,none⟩=callFunc f (#[]++(s::xs).toArray.map a.eval++ #[]):=rfl;unfold Oper.wp;rw[e0,jo A7.can,BZ];have e2:(#[]++(s::xs).toArray.map a.eval++ #[])=(aV a t::xs.map a.eval).toArray:=by simp[es]
 rw[e2];refine(A7.run w H _ ys _ cn.sub cn.gl hr ho (fun b hb=>(hn b hb).1)<|ha.ok<|cn.weaken bO).mono ?_;rintro e w' ⟨r,rfl,hg,H',h1,h2,h3,h4⟩;have Qm:∀b,(aV a t).ownBlock=some b->w0.mg b/\H b=none/\∀l,w.heap[b]? ≠some (.deferred l):=fun b hb=>⟨(hn b hb).2,(hn b hb).1,fun l e=>by
  obtain⟨_,_,o,h3,h4⟩:=bL.lE (s:= .buf E sz bl) (B:=w0) (a:=a) ⟨ys,hr,ho,hn⟩ hb;rw[h3] at e;cases e;exact h4⟩
 have kO:Sat w0 H0 N (del dd<|bN t sI) a w' H':=by
  refine Tb cn hg Qm h1 h2 h3 fun q hq=>⟨(bG q<|kB q hq).1,fun c hc e=>?_⟩
  exact cn.sep _ (bO _<|ay ht) q (bG q<|kB q hq).1 (fun e=>(bG q<|kB q hq).2 e.symm) c e hc
 refine k _ w' H'<|o9 kO na pF ?_ (rL h4)<|fun b e=>absurd e<|bL.free_spec uy
 match c6 with
 |[]=>simp[sW,bL.bH]
 |[_]=>simp[sW,bL.bH]
 |_::_::_=>simp[sW,bL.bH]
def ZS{u:Nat}(A7:EZ P f E sz bl args c6)(hu:look Γ u=some (.same t))(ht:look Γ t=some (.buf E sz bl))(ha:aJ Γ xs args)(na:dd<N):
  Py P N ops Γ ⟨some dd,.call ⟨.value<| .func f,(.tmp u::xs).toArray,r9⟩,ty,pos,af,none⟩ t dd (sW c6):=ZR A7 (.inr ⟨u,rfl,hu⟩) ht ha na
def Jk{u:Nat}(A7:EZ P f E sz bl args c6)(hu:look Γ u=some (.same t))(ht:look Γ t=some (.buf E sz bl))(ha:aJ Γ xs args)(na:dd<N):
  Step P N ops ⟨some dd,.call ⟨.value<| .func f,(.tmp u::xs).toArray,r9⟩,ty,pos,af,none⟩ Γ ((dd,sW c6)::del dd (bN t Γ)):=ZS A7 hu ht ha na Γ<|fun _ h=>h
end
section
variable[D:DR]
def Kw{α σ ρ:Type}:ard α->((σ->atg ρ)->α->σ->atg ρ)->σ->(σ->atg ρ)->atg ρ
 |[],_,s,K=>K s
 |x::xs,B,s,K=>B (fun s=>Kw xs B s K) x s
structure I2(M:Nat->Prop)(w:apT)(H:HV)(w':apT)(H':HV):Prop where
 size:w.heap.size<=w'.heap.size
 os:w'.os=w.os
 tape:w'.tape=w.tape
 output:w'.output=w.output
 drawn:GN w w'
 le:HV.le H H'
 kF:∀b,b<w.heap.size-> ¬M b->w'.heap[b]? =w.heap[b]? /\H' b=H b
 sub:∀r o,H' r=some o->w'.heap[r]? =some o
def I1{α σ ρ:Type}(P:arb)(l:Nat)(enc:α->ard Ty)(Bd:(σ->atg ρ)->α->σ->atg ρ)(r:ρ)(J:σ->Inv->Prop)(Jx:Inv->Prop)(n0:Nat):Prop:=
 ∀(next:σ->atg ρ) (x:α) (s:σ) (I:Inv) (W:apT) (H:HV) (vs:ard apU),Bd next x s=some r->J s I->I.n=n0->I.p W H->(∀r o,H r=some o->W.heap[r]? =some o)->pI P H->BF H (enc x) vs->
  YieldAt (hC none) 0 P l vs.toArray W fun e W'=>∃H' I',I'.n=n0/\I'.p W' H'/\I2 I.M W H W' H'/\(∀b,I'.M b->I.M b\/W.heap.size<=b)/\
   ((e= .returned (.bool true)/\∃s',next s'=some r/\J s' I')\/(e= .returned (.bool false)/\Jx I'))
def yR(P:arb)(gf:FuncId)(oT:ard Ty){α:Type}(enc:α->ard Ty)(L:ard α):Prop:=
 dY P gf=true/\∀{σ ρ:Type} (Bd:(σ->atg ρ)->α->σ->atg ρ) (K:σ->atg ρ) (s0:σ) (r:ρ),Kw L Bd s0 K=some r->
  ∀(l:Nat) (J:σ->Inv->Prop) (Jx:Inv->Prop) (w:apT) (H:HV) (cvs:ard apU) (I0:Inv),(∀r o,H r=some o->w.heap[r]? =some o)->pI P H->BF H oT cvs->J s0 I0->I0.n=w.heap.size->I0.p w H->
   I1 P l enc Bd r J Jx w.heap.size->
   Calls P gf (.func (.yield l) #[] #[]::cvs).toArray w fun e w'=>(∃v,e= .returned v)/\∃H' I',I'.p w' H'/\(∀r o,H' r=some o->w'.heap[r]? =some o)/\((∃s,K s=some r/\J s I')\/Jx I')
def Sl(P:arb){α:Type}(enc:α->ard Ty)(o:atg (ard α)):Ty where
 n:=1
 agg:=false
 ok:=fun H v=>∃gf cap oT,v= .func (.func gf) #[] cap/\BF H oT cap.toList/\∀L,o=some L->yR P gf oT enc L
 mono:=fun h ⟨gf,cap,oT,e,k,s⟩=>⟨gf,cap,oT,e,DC h k,s⟩
 shape:=fun⟨_,_,_,e,_⟩=>by subst e;exact Shape.one rfl
end
section
variable[D:DR]
variable{P:Program}{w0:aq P}{H0:HV}{N:Nat}{Q:Exit->Act->World->Prop}{Γ az:Ctx}
variable{w:apT}{H:HV}{T:ard Nat}{l:Nat}{rc:Loop}{σ ρ:Type}{r:ρ}{ts:ard Nat}{wr:aq P}{Hr:HV}{pv:Nat->apU}{c8:σ->Ctx}{J6:atg Ctx}{next:σ->atg ρ}{a:Act}
def Rp(N:Nat)(T:ard Nat)(Γ:Ctx):Bool:=Γ.all fun p=>Nat.blt p.1 N&&T.contains p.1&&p.2.bH.all (fun t=>T.contains t)&& !p.2.iU
def lf{N:Nat}{Γ:Ctx}(h:Rp N T Γ=true){p:Nat×bL}(hp:p∈Γ):p.1<N/\p.1∈T/\(∀t∈p.2.bH,t∈T)/\p.2.iU=false:=by
 have:=db.1 h p hp;simp only[bV,db,wJ,gY] at this;obtain⟨⟨⟨h1,h2⟩,h3⟩,h4⟩:=this;exact⟨bU h1,h2,h3,h4⟩
def pins(N:Nat)(T:ard Nat)(pv:Nat->apU):Ctx:=T.map fun t=>(N+1+t,.OK t<|pv t)
def params:ard Nat->ard Ty->Ctx
 |p::ps,τ::τs=>(p,.val τ)::params ps τs
 |_,_=>[]
def busy(rc:Loop):Loop:={rc with state:= .busy}
def Ym(wr:aq P)(Hr:HV)(N l:Nat)(rc:Loop)(T:ard Nat)(pv:Nat->apU){σ ρ:Type}(c8:σ->Ctx)(J6:atg Ctx)(next:σ->atg ρ)(r:ρ):Exit->Act->apT->Prop
 | .normal,a,w=>∃s',next s'=some r/\∃H,Sat wr Hr N ((N,.lz l<|busy rc)::(pins N T pv++c8 s')) a w H
 | .ret,a,w=>∃G,J6=some G/\∃H,Sat wr Hr N ((N,.lz l<|busy rc)::(pins N T pv++G)) a w H
 |_,_,_=>False
def Yp(wr:aq P)(Hr:HV)(N l:Nat)(rc:Loop)(T:ard Nat)(pv:Nat->apU){σ ρ:Type}(body:Code)(c8:σ->Ctx)(J6:atg Ctx)(next:σ->atg ρ)(r:ρ):Exit->Act->apT->Prop
 | .normal,a,w=>∃Yq H,Sat wr Hr N ((N,.lz l rc)::Yq) a w H/\bN N Yq=Yq/\Goal P wr Hr N body (Ym wr Hr N l rc T pv c8 J6 next r) ((N,.lz l<|busy rc)::Yq)
 |_,_,_=>False
def Ow{body:Code}{Yq:Ctx}
 (h:uX Γ ts ((N,.lz l rc)::Yq))(hf:bN N Yq=Yq)(g:Goal P wr Hr N body (Ym wr Hr N l rc T pv c8 J6 next r) ((N,.lz l<|busy rc)::Yq)):
  lV wr Hr N (Yp wr Hr N l rc T pv body c8 J6 next r .normal) Γ:=fun _ _ H hs=>⟨Yq,H,hs.weaken h.sub,hf,g⟩
def xE{s':σ}(hm:next s'=some r)
 (h:uX Γ ts ((N,.lz l<|busy rc)::(pins N T pv++c8 s'))):lV wr Hr N (Ym wr Hr N l rc T pv c8 J6 next r .normal) Γ:=fun _ _ H hs=>⟨s',hm,H,hs.weaken h.sub⟩
def adg{G:Ctx}(hx:J6=some G)
 (h:uX Γ ts ((N,.lz l<|busy rc)::(pins N T pv++G))):lV wr Hr N (Ym wr Hr N l rc T pv c8 J6 next r .ret) Γ:=fun _ _ H hs=>⟨G,hx,H,hs.weaken h.sub⟩
def zM.putObj(w:apT)(l:Nat)(o:Obj):zM w (w.putObj l o) (some l):=⟨⟨rfl,rfl,rfl,by simp,fun j _ hj=>IC (fun e=>hj (by rw[e]))⟩,bC _⟩
def Hy{k:Nat}{rc':Loop}(hs:Sat w0 H0 N Γ a w H)(hk:(k,.lz l rc)∈Γ):Sat w0 H0 N ((k,.lz l rc')::bN k Γ) a (w.putObj l<| .loop rc') H:=by
 obtain⟨h1,h2,h3⟩:=hs.holds _ hk;exact iK hs hk (zM.putObj w l _) h3 rfl ⟨L4<|lt_of_heap h1,h2,h3⟩ fun c hc=> .inl hc
def Sat.Sh(hs:Sat w0 H0 N Γ a w H):∀{G:Ctx},(∀p∈G,p.2.free=true/\p.2.holds w0 a w H (aV a p.1))->Sat w0 H0 N (G++Γ) a w H:=fun{G} h=>by
 refine⟨hs.nd,hs.sz,hs.below,hs.I7,hs.sub,?_,?_,hs.gl⟩
 ·intro p hp;rcases lN.1 hp with hp|hp
  ·exact(h p hp).2
  ·exact hs.holds p hp
 ·intro p hp q hq hne b hb ji;rcases lN.1 hp with hp|hp
  ·exact bL.free_spec (h p hp).1 hb
  ·rcases lN.1 hq with hq|hq
   ·exact bL.free_spec (h q hq).1 ji
   ·exact hs.sep p hp q hq hne b hb ji
def Ng{w:apT}{H:HV}:∀{ps:ard Nat} {τs:ard Ty} {vs:ard apU} {Γ:Ctx} {a:Act},BF H τs vs->ps.length=τs.length->(∀p∈ps,p<N/\mK p Γ=true)->ps.Nodup->Sat w0 H0 N Γ a w H->
  ∃G,(∀q∈params ps τs++Γ,q∈G)/\Sat w0 H0 N G {tmps:=(ps.zip vs).foldl (fun t (p,v)=>t.setIfInBounds p v) a.tmps,defers:=a.defers} w H
 |[],[],vs,Γ,a,ho,_,_,_,hs=>by
  have:vs=[]:=ho;subst this;exact⟨Γ,fun q hq=>hq,hs⟩
 |[],_::_,_,_,_,_,hl,_,_,_=>by simp at hl
 |_::_,[],_,_,_,_,hl,_,_,_=>by simp at hl
 |p::ps,τ::τs,_,Γ,a,⟨v,rest,e,hv,hr⟩,hl,hp,hn,hs=>by
  subst e;obtain⟨V6,Pm⟩:=List.nodup_cons.1 hn;have h1:=o9 hs (hp p (by simp)).1 (hp p (by simp)).2 (s:= .val τ) (v:=v) (by simp[bL.bH]) hv<|fun b h=>h.elim
  obtain⟨G,hG,hS⟩:=Ng (ps:=ps) (τs:=τs) (vs:=rest) (Γ:=(p,.val τ)::Γ) hr (by simpa using hl) (fun q hq=>⟨(hp q (by simp[hq])).1,by
   have:=(hp q (by simp[hq])).2;simp only[mK,rz,bV] at this⊢;refine⟨⟨?_,by simp[bL.bH]⟩,this⟩;simp only[oj,ne_eq];exact fun e=>V6<|e▸hq⟩) Pm h1
  refine⟨G,fun q hq=>hG q ?_,hS⟩;simp only[params,LS,bM,lN] at hq⊢;rcases hq with h|h|h
  ·exact .inr<| .inl h
  ·exact .inl h
  ·exact .inr<| .inr h
def Marks.tail{B:aq P}{w:apT}{H:HV}:∀{l m:ard Deferred},Marks B w H (l++m)->Marks B w H m
 |[],_,h=>h
 |_::_,_,h=>Marks.tail h.2
def Marks.both{B B':aq P}{w w':apT}{H H':HV}:∀{l:ard Deferred},Marks B w H l->Marks B' w' H' l->Marks B w' H' l
 |[],_,_=>trivial
 |_::_,⟨⟨D,e,h1,_,_,h4⟩,hr⟩,⟨⟨D',e',_,g2,g3,_⟩,gr⟩=>by
  rw[e] at e';cases e';exact⟨⟨D,e,h1,g2,g3,h4⟩,hr.both gr⟩
def aeP(w0:aq P)(H0:HV)(N:Nat)(Γ:Ctx)(a:Act)(n1:Nat)(M:Nat->Prop)(NV:∀p∈Γ,p.2.iU=false)(hn:w0.n<=n1)(hD:∀D,({target:= .collected D,args:= #[]}:Deferred)∈a.defers++w0.ds->D<n1):Inv where
 n:=n1
 M:=M
 p:=fun W H=>Sat w0 H0 N Γ a W H/\∀b,M b↔∃p∈Γ,p.2.owns W (aV a p.1) b
 lt:=fun⟨hS,hM⟩ hb=>by
  obtain⟨p,hp,hb⟩:=(hM _).1 hb;exact bL.lE (hS.holds p hp) hb
 step:=fun{w w' H H'} ⟨hS,hM⟩ F=>by
  have hk:∀p∈Γ,∀b,p.2.owns w (aV a p.1) b->w'.heap[b]? =w.heap[b]? /\H' b=H b:=fun p hp b hb=>by
   have h1:=(bL.lE (hS.holds p hp) hb).1;have h2:M b:=(hM b).2 ⟨p,hp,hb⟩;exact⟨F.kF b h1<| .inr h2,F.view b h1<| .inr h2⟩
  refine⟨AS (ds:=a.defers) hS ?_ F.drawn ?_ F.size F.le F.sub ?_ (fun p hp=>⟨hp,hk p hp⟩) ?_,fun b=>?_⟩
  ·exact⟨F.os.trans hS.below.os,F.tape.trans hS.below.tape,F.output.trans hS.below.output,fc hS.below.drawn F.drawn,fc hS.below.size F.size,
    fun hv k hk hx=>(F.kF k (nD hk hS.below.size)<| .inl<|nD hk hn).trans<|hS.below.block hv k hk hx⟩
  ·exact fun _ r hr _=>F.view r (nD hr hS.below.size)<| .inl<|nD hr hn
  ·rintro⟨p,hp,hi⟩;rw[NV p hp] at hi;cases hi
  ·exact hS.nd.kept fun D hm h1 h2=>⟨by rw[F.kF D (lt_of_heap h1)<| .inl<|hD D hm];exact h1,by rw[F.view D (lt_of_heap h1)<| .inl<|hD D hm];exact h2⟩
  ·rw[hM b];have key:∀p∈Γ,∀b,p.2.owns w' (aV a p.1) b↔p.2.owns w (aV a p.1) b:=fun p hp b=>by
    refine(bL.uT (n:=0) (w':=w') (H':=H') (hS.holds p hp) (fun hi=>by rw[NV p hp] at hi;cases hi) ?_).2 b;exact⟨F.size,F.os,F.tape,F.output,F.drawn,F.le,fun b _ h=>h.elim (fun h=>by omega)<|fun h=>(hk p hp b h).1,fun b _ h=>h.elim (fun h=>by omega)<|fun h=>(hk p hp b h).2,F.sub⟩
   exact⟨fun⟨p,hp,h⟩=>⟨p,hp,(key p hp b).2 h⟩,fun⟨p,hp,h⟩=>⟨p,hp,(key p hp b).1 h⟩⟩
def Sa{k:Nat}:∀{Γ:Ctx},(∀p∈Γ,p.1≠k)->bN k Γ=Γ
 |[],_=>rfl
 |p::Γ,h=>by
  have h1:Nat.beq p.1 k=false:=by
   cases hb:Nat.beq p.1 k
   ·rfl
   ·exact absurd (fB hb) (h p (by simp))
  simp only[bN,h1,fU];rw[Sa fun q hq=>h q (by simp[hq])]
def Sat.defs{ds:ard Deferred}(hs:Sat w0 H0 N Γ a w H)(hm:Marks w0 w H (ds++w0.ds)):Sat w0 H0 N Γ {a with defers:=ds} w H:=
 AS (ds:=ds) hs hs.below (bC _) (fun _ _ _ _=>rfl) (bC _) (HV.le.refl _) hs.sub (fun _ _ _ _=>⟨rfl,rfl⟩) (fun p hp=>⟨hp,fun _ _=>⟨rfl,rfl⟩⟩) hm
def Tc{a3 aD:Act}{W W4:apT}{Hc H3:HV}{M:Nat->Prop}{G G':Ctx}(hS:Sat w0 H0 N G aD W Hc)(hds:w0.ds=[])(UW:w0.rd=none)
 (hM:∀b,M b->w0.mg b/\Hc b=none)(wr:aq P)(hwr:wr=⟨W,M,some l,false,aD.defers,0,jc _,fun _ _=>jc _⟩)
 (N5:Sat wr Hc N ((N,.lz l rc)::(pins N T (fun t=>aV aD t)++G')) a3 W4 H3)(hT:Rp N T G'=true):
  Sat w0 H0 N ((N,.lz l rc)::G') aD W4 H3/\I2 M W Hc W4 H3/\∀p∈(N,bL.lz l rc)::G',∀b,p.2.owns W4 (aV aD p.1) b->M b\/W.heap.size<=b:=by
 have hwn:wr.n=W.heap.size:=by rw[hwr];rfl
 have hwX:wr.X=M:=by rw[hwr]
 have hwv:wr.QS=false:=by rw[hwr]
 have anH:wr.ds=aD.defers:=by rw[hwr]
 have hww:wr.w=W:=by rw[hwr]
 have OK:∀t∈T,aV a3 t=aV aD t:=fun t ht=>N5.holds (N+1+t,.OK t<|aV aD t)<|fC _<|B7 _<|mF.2 ⟨t,ht,rfl⟩
 have mem:∀p∈(N,bL.lz l rc)::G',p∈(N,bL.lz l rc)::(pins N T (fun t=>aV aD t)++G'):=fun p hp=>by
  rcases bM.1 hp with e|hp
  ·subst e;simp
  ·exact fC _<|Ap _ hp
 have mg:∀b,wr.mg b->w0.mg b:=fun b hb=>by
  rcases hb with hb|hb
  ·exact .inl<|fc hS.below.size<|hwn▸hb
  ·exact(hM b<|hwX▸hb).1
 have hle:HV.le Hc H3:=fun r o h=>by
  have hlt:=wU hS.sub h;rw[N5.I7 hwv r (by rw[hwn];exact hlt) (fun hx=>by have:=(hM r<|hwX▸hx).2;rw[this] at h;cases h)];exact h
 have kF:∀b,b<W.heap.size-> ¬M b->W4.heap[b]? =W.heap[b]? /\H3 b=Hc b:=fun b hb hn=>by
  have h1:=N5.below.block hwv b (by rw[hwn];exact hb) (by rw[hwX];exact hn);rw[hww] at h1;exact⟨h1,N5.I7 hwv b (by rw[hwn];exact hb) (by rw[hwX];exact hn)⟩
 have hsz:W.heap.size<=W4.heap.size:=by have:=N5.below.size;rw[hwn] at this;exact this
 have hos:W4.os=W.os:=by have:=N5.below.os;rw[hww] at this;exact this
 have hta:W4.tape=W.tape:=by have:=N5.below.tape;rw[hww] at this;exact this
 have hou:W4.output=W.output:=by have:=N5.below.output;rw[hww] at this;exact this
 have XT:GN W W4:=by have:=N5.below.drawn;rw[hww] at this;exact this
 have low:∀k,k<w0.n-> ¬w0.X k-> ¬M k:=fun k hk hx hm=>by
  rcases(hM k hm).1 with h|h
  ·omega
  ·exact hx h
 have ag7:∀p∈(N,bL.lz l rc)::G',∀b,p.2.owns W4 (aV aD p.1) b↔p.2.owns W4 (aV a3 p.1) b:=fun p hp b=>by
  rcases bM.1 hp with e|hp
  ·subst e;exact Iff.rfl
  ·rw[OK _ (lf hT hp).2.1]
 refine⟨⟨?_,hS.sz,?_,?_,N5.sub,?_,?_,N5.gl⟩,⟨hsz,hos,hta,hou,XT,hle,kF,N5.sub⟩,?_⟩
 ·have h1:=N5.nd.tail;rw[anH] at h1;have h2:=hS.nd;rw[hds,vB] at h2⊢;exact h2.both h1
 ·exact⟨hos.trans hS.below.os,hta.trans hS.below.tape,hou.trans hS.below.output,fc hS.below.drawn XT,fc hS.below.size hsz,
   fun hv k hk hx=>(kF k (nD hk hS.below.size)<|low k hk hx).1.trans<|hS.below.block hv k hk hx⟩
 ·exact fun hv r hr hx=>(kF r (nD hr hS.below.size)<|low r hr hx).2.trans<|hS.I7 hv r hr hx
 ·intro p hp;have h1:=N5.holds p<|mem p hp
  have hi:p.2.iU=false:=by
   rcases bM.1 hp with e|hp
   ·subst e;rfl
   ·exact(lf hT hp).2.2.2
  have h2:=bL.pz (B':=w0) hi h1 fun b hb=>mg b<|bL.qO hi h1 hb
  rcases bM.1 hp with e|hp
  ·subst e;exact h2
  ·obtain⟨_,hk,hl,_⟩:=lf hT hp;rw[<-OK _ hk];exact bL.nX (fun t ht=>(OK t<|hl t ht).symm) h2
 ·intro p hp q hq hne b hb ji;exact N5.sep p (mem p hp) q (mem q hq) hne b ((ag7 p hp b).1 hb)<|(ag7 q hq b).1 ji
 ·intro p hp b hb;have h1:=N5.holds p<|mem p hp
  have hi:p.2.iU=false:=by
   rcases bM.1 hp with e|hp
   ·subst e;rfl
   ·exact(lf hT hp).2.2.2
  rcases bL.qO hi h1 ((ag7 p hp b).1 hb) with h|h
  ·exact .inr<|hwn▸h
  ·exact .inl<|hwX▸h
def Ch{α:Type}{gt:Tmp}{psl:ard Tmp}{assign body:Code}{enc:α->ard Ty}{L:ard α}{o:atg (ard α)}(T:ard Nat)(c8:σ->Ctx)(J6:atg Ctx)
 {Bd:(σ->atg ρ)->α->σ->atg ρ}{K:σ->atg ρ}{s0:σ}
 (hm:Kw L Bd s0 K=some r)(ho:o=some L)(UW:w0.rd=none)(hds:w0.ds=[])(hg:look Γ gt=some (.val<|Sl P enc o))(h0:uX Γ ts (c8 s0))
 (hT:∀s,Rp N T (c8 s)=true)(hTx:∀G,J6=some G->Rp N T G=true)(hps:∀x,(enc x).length=psl.length)(hpN:(psl.all fun p=>Nat.blt p N&& !T.contains p)=true)(Pl:psl.Nodup)
 (round:∀(wr:aq P) (Hr:HV) (l:Nat) (rc:Loop) (pv:Nat->apU) (next:σ->atg ρ) (x:α) (s:σ),wr.rd=some l->Bd next x s=some r->
 Goal P wr Hr N assign (Yp wr Hr N l rc T pv body c8 J6 next r) (params psl (enc x)++((N,.lz l rc)::(pins N T pv++c8 s))))
 (kk:∀s,K s=some r->lV w0 H0 N (Q .normal) (c8 s))(kx:∀G,J6=some G->lV w0 H0 N (Q .ret) G):Goal P w0 H0 N (.rangeFunc (.tmp gt) psl.toArray assign body) Q Γ:=by
 intro a w H hs;have hinv:∀s,∀p∈c8 s,p.2.iU=false:=fun s p hp=>(lf (hT s) hp).2.2.2
 have agI:∀s,∀p∈c8 s,p.1≠N:=fun s p hp=>Nat.ne_of_lt (lf (hT s) hp).1
 rw[UW];refine wpIn_rangeFunc ?_;intro fn _;obtain⟨gf,cap,oT,eg,hcap,A7⟩:=hs.holds _<|ay hg
 obtain⟨Wb,ak7⟩:=A7 L ho;simp only at eg;obtain⟨yU,RV⟩:∃yU:Loop,yU={state:= .ready,pending:=none,fn,tmps:=a.tmps,params:=psl.toArray,assign,body,defers:=w.heap.size}:=⟨_,rfl⟩;obtain⟨W1,hW1⟩:∃W1,(w.alloc<| .deferred<|some []).alloc (.loop yU)=W1:=⟨_,rfl⟩;obtain⟨aD,haD⟩:∃aD:Act,{a with defers:={target:= .collected w.heap.size,args:= #[]}::a.defers}=aD:=⟨_,rfl⟩;have arK:W1.heap.size=w.heap.size+2:=by rw[<-hW1];simp
 have hL1:W1.heap[w.heap.size+1]? =some (.loop yU):=by
  rw[<-hW1];have:=World.alloc_heap_new (w.alloc<| .deferred<|some []) (.loop yU);rwa [World.size_alloc] at this
 have hK1:W1.heap[w.heap.size]? =some (.deferred<|some []):=by
  rw[<-hW1];exact(Below.heap_alloc _ _ _ (by simp)).trans<|World.alloc_heap_new w _
 have hHn:∀b,w.heap.size<=b->H b=none:=fun b hb=>by
  cases hh:H b with
  |none=>rfl
  |some o=>have:=wU hs.sub hh;omega
 have he:Ext w H W1 H:=by
  have e1:=Ext.alloc hs.sub (w:=w)<| .deferred<|some []
  have e2:=Ext.alloc e1.sub (w:=w.alloc<| .deferred<|some [])<| .loop yU
  rw[hW1] at e2;refine⟨⟨?_,fc e1.below.drawn e2.below.drawn⟩,HV.le.refl _,fun _ _=>rfl,e2.sub⟩;have h1:=e1.below.toBelow;have h2:=e2.below.toBelow;exact h1.trans (h2.mono (by simp))
 have hsD:Sat w0 H0 N ((N,.lz (w.heap.size+1) yU)::c8 s0) aD W1 H:=by
  have hs1:=Dp (hs.weaken h0.sub) he;have hmk:Marks w0 W1 H (aD.defers++w0.ds):=by
   rw[<-haD];refine⟨⟨w.heap.size,rfl,fun _=>hs.below.size,hK1,hHn _<|bC _,?_⟩,hs1.nd⟩;intro e he1 he2;have:∀{l:ard Deferred},Marks w0 w H l->e∈l->False:=by
    intro l
    induction l with
    |nil=>intro _ h;cases h
    |cons x l ih=>
     rintro⟨⟨D,ex,_,g2,_,_⟩,gr⟩ h;rcases bM.1 h with h|h
     ·subst h;rw[ex] at he2;have hD:D=w.heap.size:=by injection he2 with h _;injection h
      subst hD;have:=lt_of_heap g2;omega
     ·exact ih gr h
   exact this hs.nd he1
  have La:Sat w0 H0 N (c8 s0) aD W1 H:=by rw[<-haD] at hmk⊢;exact hs1.defs hmk
  refine⟨La.nd,La.sz,La.below,La.I7,La.sub,?_,?_,La.gl⟩
  ·intro p hp;rcases bM.1 hp with e|hp
   ·subst e;exact⟨hL1,hHn _ (by omega),.inl (fc hs.below.size (by omega))⟩
   ·exact La.holds p hp
  ·have key:∀q∈c8 s0,¬q.2.owns W1 (aV aD q.1) (w.heap.size+1):=fun q hq hb=>by
    have ji:q.2.owns W1 (aV a q.1) (w.heap.size+1):=by rw[<-haD] at hb;exact hb
    have:=(bL.lE ((hs.weaken h0.sub).holds q hq)<|(bL.HK he ((hs.weaken h0.sub).holds q hq) _).1 ji).1;omega
   intro p hp q hq hne b hb ji;rcases bM.1 hp with e|hp<;>rcases bM.1 hq with e'|hq
   ·subst e;subst e';exact hne rfl
   ·subst e;cases hb;exact key q hq ji
   ·subst e';cases ji;exact key p hp hb
   ·exact La.sep p hp q hq hne b hb ji
 have hDl:∀D,({target:= .collected D,args:= #[]}:Deferred)∈aD.defers++w0.ds->D<W1.heap.size:=by
  intro D hD;have:∀{l:ard Deferred},Marks w0 W1 H l->({target:= .collected D,args:= #[]}:Deferred)∈l->D<W1.heap.size:=by
   intro l
   induction l with
   |nil=>intro _ h;cases h
   |cons x l ih=>
    rintro⟨⟨D',ex,_,g2,_,_⟩,gr⟩ h;rcases bM.1 h with h|h
    ·rw[ex] at h;have hD:D=D':=by injection h with h _;injection h
     subst hD;exact lt_of_heap g2
    ·exact ih gr h
  exact this hsD.nd hD
 have V6:w0.n<=W1.heap.size:=by have:=hs.below.size;omega
 have afv:∀s,∀p∈(N,bL.lz (w.heap.size+1) yU)::c8 s,p.2.iU=false:=fun s p hp=>by
  rcases bM.1 hp with e|hp
  ·subst e;rfl
  ·exact hinv s p hp
 have ab7:∃Xf:Loop,Xf={yU with state:= .done,pending:=some .ret}:=⟨_,rfl⟩;obtain⟨Xf,ab7⟩:=ab7;have akS:∀G,J6=some G->∀p∈(N,bL.lz (w.heap.size+1) Xf)::G,p.2.iU=false:=fun G hG p hp=>by
  rcases bM.1 hp with e|hp
  ·subst e;rfl
  ·exact(lf (hTx G hG) hp).2.2.2
 let J:σ->Inv->Prop:=fun s I=>∃M,I=aeP w0 H0 N ((N,.lz (w.heap.size+1) yU)::c8 s) aD W1.heap.size M (afv s) V6 hDl
 let Jx:Inv->Prop:=fun I=>∃G,∃hG:J6=some G,∃M,I=aeP w0 H0 N ((N,.lz (w.heap.size+1) Xf)::G) aD W1.heap.size M (akS G hG) V6 hDl
 refine⟨w.heap.size+1,[{target:= .collected w.heap.size,args:= #[]}],W1,{target:= .fn (.func gf) cap,args:= #[.func (.yield<|w.heap.size+1) #[] #[]]},W1,gf,#[.func (.yield<|w.heap.size+1) #[] #[]]++cap,W1,?_,?_,?_,?_,(fun e=>by cases e),?_⟩
 ·rw[<-hW1,RV];exact run_enterLoop_outer _ _ _ _ _
 ·have eg':a.eval (.tmp gt)= .func (.func gf) #[] cap:=eg;simp only[resolve,eg'];simp[go_sem]
 ·intro f' _;trivial
 ·have:=jo Wb (#[.func (.yield<|w.heap.size+1) #[] #[]]++cap) W1;simp only[invoke];exact this
 ·
  have ec:(#[.func (.yield<|w.heap.size+1) #[] #[]]++cap:ath apU)=(.func (.yield<|w.heap.size+1) #[] #[]::cap.toList).toArray:=by apply Array.ext';simp
  rw[ec];refine CallsIn.agr (adf<|ak7 Bd K s0 r hm (w.heap.size+1) J Jx W1 H cap.toList _ hsD.sub hsD.gl (DC (HV.le.refl _) hcap) ⟨fun b=>∃p∈(N,bL.lz (w.heap.size+1) yU)::c8 s0,p.2.owns W1 (aV aD p.1) b,rfl⟩ rfl ⟨hsD,fun b=>Iff.rfl⟩ ?_) ?_
  ·
   rintro next x s I W Hc vs hBd ⟨M,rfl⟩ _ ⟨hS,hM⟩ bO hgl hvs
   have hM':∀b,M b->w0.mg b/\Hc b=none:=fun b hb=>by
    obtain⟨p,hp,hb⟩:=(hM b).1 hb;exact⟨bL.qO (afv s p hp) (hS.holds p hp) hb,(bL.lE (hS.holds p hp) hb).2.1⟩
   obtain⟨NY,St,hl3⟩:=hS.holds (N,.lz (w.heap.size+1) yU) (by simp);have VW:vs.length=psl.length:=by rw[zf hvs,hps x]
   have hy:=run_yield (P:=P) (args:=vs.toArray) NY (by rw[RV];simpa using VW);refine⟨yU.fn,_,yU.assign,yU.body,hy,roundIn_of_wpIn trivial ?_⟩;have ea:yU.assign=assign:=by rw[RV]
   have eb:yU.body=body:=by rw[RV]
   have et:((yU.params.zip vs.toArray).foldl (fun tmps (t,a)=>tmps.setIfInBounds t a) yU.tmps)=((psl.zip vs).foldl (fun t (p,v)=>t.setIfInBounds p v) aD.tmps):=by
    rw[RV,<-haD];simp
   rw[ea,eb,et];obtain⟨wr,hwr⟩:∃wr:aq P,wr=⟨W,M,some<|w.heap.size+1,false,aD.defers,0,jc _,fun _ _=>jc _⟩:=⟨_,rfl⟩;have ahY:wr.rd=some (w.heap.size+1):=by rw[hwr]
   have VZ:Sat wr Hc N ((N,.lz (w.heap.size+1) yU)::c8 s) {aD with defers:=[]} W Hc:=by
    refine⟨?_,hS.sz,?_,fun _ _ _ _=>rfl,hS.sub,?_,hS.sep,hS.gl⟩
    ·rw[hwr];show Marks _ W Hc ([]++aD.defers);have h2:=hS.nd;rw[hds,vB] at h2;have:∀{l:ard Deferred},Marks w0 W Hc l->Marks (⟨W,M,some<|w.heap.size+1,false,aD.defers,0,jc _,fun _ _=>jc _⟩:aq P) W Hc l:=by
      intro l
      induction l with
      |nil=>exact fun _=>trivial
      |cons x l ih=>exact fun⟨⟨D,e,_,g2,g3,g4⟩,gr⟩=>⟨⟨D,e,(fun h=>by cases h),g2,g3,g4⟩,ih gr⟩
     exact this h2
    ·rw[hwr];exact⟨rfl,rfl,rfl,bC _,bC _,fun _ _ _ _=>rfl⟩
    ·intro p hp;refine bL.nX (a:=aD) (fun _ _=>rfl)<|bL.pz (afv s p hp) (hS.holds p hp) fun b hb=>?_
     rw[hwr];exact .inr<|(hM b).2 ⟨p,hp,hb⟩
   have hr1:Sat wr Hc N (pins N T (fun t=>aV aD t)++((N,.lz (w.heap.size+1) yU)::c8 s)) {aD with defers:=[]} W Hc:=by
    refine VZ.Sh fun p hp=>?_
    obtain⟨t,ht,rfl⟩:=mF.1 hp;exact⟨rfl,rfl⟩
   obtain⟨G,hG,JO⟩:=Ng (ps:=psl) (τs:=enc x) (vs:=vs) hvs (hps x).symm (fun p hp=>by
    have h1:=db.1 hpN p hp;simp only[bV,gY] at h1;have hpT:p∉T:=fun h=>by have:=wJ.2 h;rw[h1.2] at this;cases this
    refine⟨bU h1.1,db.2 fun q hq=>?_⟩;have hlt:=bU h1.1;simp only[bV,oj,ne_eq,gY];rcases lN.1 hq with hq|hq
    ·obtain⟨t,ht,rfl⟩:=mF.1 hq;refine⟨by simp only;omega,?_⟩;simp only[bL.bH,List.contains_cons,List.contains_nil,Bool.or_false,BP,ne_eq];exact fun e=>hpT<|e▸ht
    ·rcases bM.1 hq with e|hq
     ·subst e;exact⟨by simp only;omega,rfl⟩
     ·obtain⟨_,k2,k3,_⟩:=lf (hT s) hq;refine⟨fun e=>hpT<|e▸k2,?_⟩;cases hc:q.2.bH.contains p
      ·rfl
      ·exact absurd (k3 p<|wJ.1 hc) hpT) Pl hr1
   have hr3:Sat wr Hc N (params psl (enc x)++((N,.lz (w.heap.size+1) yU)::(pins N T (fun t=>aV aD t)++c8 s))) _ W Hc:=JO.weaken fun q hq=>hG q (by
    simp only[lN,bM] at hq⊢;rcases hq with h|h|h|h
    ·exact .inl h
    ·exact .inr<| .inr<| .inl h
    ·exact .inr<| .inl h
    ·exact .inr<| .inr<| .inr h)
   have alz:=round wr Hc (w.heap.size+1) yU (fun t=>aV aD t) next x s ahY hBd _ W Hc hr3
   rw[ahY] at alz;refine BR (F:=hC<|some<|w.heap.size+1) alz ?_;rintro e a1 W2 hq;cases e with
   |normal=>
    obtain⟨Yq,H2,hS2,hdk,hgo⟩:=hq;have hb0:=hS2.holds (N,.lz (w.heap.size+1) yU) (by simp);refine⟨_,run_beginRound hb0.1 (by rw[RV]),?_⟩;have alF:=Hy (l:=w.heap.size+1) (rc:=yU) (rc':=busy yU) hS2 (k:=N) (by simp);have edk:bN N ((N,bL.lz (w.heap.size+1) yU)::Yq)=Yq:=by
     have:Nat.beq N N=true:=by simp
     simp only[bN,this,fT];exact hdk
    rw[edk] at alF;have agM:=hgo a1 _ H2 alF;rw[ahY] at agM;refine BR (F:=hC<|some<|w.heap.size+1) agM ?_;rintro e a3 W3 hq3;cases e with
    |normal=>
     obtain⟨s',KA,H3,hS3⟩:=hq3;have hb3:=hS3.holds (N,.lz (w.heap.size+1)<|busy yU) (by simp);have N5:=Hy (l:=w.heap.size+1) (rc:=busy yU) (rc':=yU) hS3 (k:=N) (by simp);have aiX:bN N ((N,bL.lz (w.heap.size+1)<|busy yU)::(pins N T (fun t=>aV aD t)++c8 s'))=pins N T (fun t=>aV aD t)++c8 s':=by
      have:Nat.beq N N=true:=by simp
      simp only[bN,this,fT];refine Sa fun p hp=>?_
      rcases lN.1 hp with hp|hp
      ·obtain⟨t,_,rfl⟩:=mF.1 hp;simp only;omega
      ·exact agI s' p hp
     rw[aiX] at N5;obtain⟨hB1,hB2,hB3⟩:=Tc hS hds UW hM' wr hwr N5<|hT s'
     have erc:({busy yU with state:=if(none:atg Code).isNone then .ready else .done,pending:=none}:Loop)=yU:=by rw[RV];rfl
     refine⟨_,_,run_endRound none hb3.1,H3,aeP w0 H0 N ((N,.lz (w.heap.size+1) yU)::c8 s') aD W1.heap.size (fun b=>∃p∈(N,bL.lz (w.heap.size+1) yU)::c8 s',p.2.owns (W3.putObj (w.heap.size+1)<| .loop yU) (aV aD p.1) b) (afv s') V6 hDl,rfl,?_,?_,?_,.inl ⟨rfl,s',KA,_,rfl⟩⟩
     ·rw[erc];exact⟨hB1,fun b=>Iff.rfl⟩
     ·rw[erc];exact hB2
     ·rintro b ⟨p,hp,hb⟩;exact hB3 p hp b hb
    |ret=>
     obtain⟨G,hG,H3,hS3⟩:=hq3;have hb3:=hS3.holds (N,.lz (w.heap.size+1)<|busy yU) (by simp);have N5:=Hy (l:=w.heap.size+1) (rc:=busy yU) (rc':=Xf) hS3 (k:=N) (by simp);have aiX:bN N ((N,bL.lz (w.heap.size+1)<|busy yU)::(pins N T (fun t=>aV aD t)++G))=pins N T (fun t=>aV aD t)++G:=by
      have:Nat.beq N N=true:=by simp
      simp only[bN,this,fT];refine Sa fun p hp=>?_
      rcases lN.1 hp with hp|hp
      ·obtain⟨t,_,rfl⟩:=mF.1 hp;simp only;omega
      ·exact Nat.ne_of_lt (lf (hTx G hG) hp).1
     rw[aiX] at N5;obtain⟨hB1,hB2,hB3⟩:=Tc hS hds UW hM' wr hwr N5<|hTx G hG
     have erc:({busy yU with state:=if(some Code.ret:atg Code).isNone then .ready else .done,pending:=some .ret}:Loop)=Xf:=by rw[ab7];rfl
     refine⟨_,_,run_endRound (some .ret) hb3.1,H3,aeP w0 H0 N ((N,.lz (w.heap.size+1) Xf)::G) aD W1.heap.size (fun b=>∃p∈(N,bL.lz (w.heap.size+1) Xf)::G,p.2.owns (W3.putObj (w.heap.size+1)<| .loop Xf) (aV aD p.1) b) (akS G hG) V6 hDl,rfl,?_,?_,?_,.inr ⟨rfl,G,hG,_,rfl⟩⟩
     ·rw[erc];exact⟨hB1,fun b=>Iff.rfl⟩
     ·rw[erc];exact hB2
     ·rintro b ⟨p,hp,hb⟩;exact hB3 p hp b hb
    |exit id=>exact hq3.elim
    |goto t=>exact hq3.elim
    |panic ch=>exact hq3.elim
    |outgrown=>exact hq3.elim
   |ret=>exact hq.elim
   |exit id=>exact hq.elim
   |goto t=>exact hq.elim
   |panic ch=>exact hq.elim
   |outgrown=>exact hq.elim
  ·
   rintro e w3 ⟨⟨v,rfl⟩,H',I',hp,aqt,(⟨s,hK,M,rfl⟩|⟨G,hG,M,rfl⟩)⟩
   ·obtain⟨hS,_⟩:=hp;obtain⟨NY,_,_⟩:=hS.holds (N,.lz (w.heap.size+1) yU) (by simp);have hel:=run_endLoop (P:=P) NY (by rw[RV];simp);have epe:yU.pending=none:=by rw[RV]
    rw[epe] at hel;refine⟨none,_,hel,?_⟩;have h5:=Hy (l:=w.heap.size+1) (rc:=yU) (rc':={yU with state:= .exhausted,pending:=none}) hS (k:=N) (by simp);have h6:Sat w0 H0 N (c8 s) aD (w3.putObj (w.heap.size+1)<| .loop {yU with state:= .exhausted,pending:=none}) H':=h5.weaken fun q hq=>by
     refine fC _<|lF ?_<|agI s q hq
     exact fC _ hq
    have:=kk s hK aD _ H' h6;rw[<-haD] at this;exact this
   ·obtain⟨hS,_⟩:=hp;obtain⟨NY,_,_⟩:=hS.holds (N,.lz (w.heap.size+1) Xf) (by simp);have hel:=run_endLoop (P:=P) NY (by rw[ab7];simp);have epe:Xf.pending=some .ret:=by rw[ab7]
    rw[epe] at hel;refine⟨some .ret,_,hel,?_⟩;refine wpIn_ret ?_;have h5:=Hy (l:=w.heap.size+1) (rc:=Xf) (rc':={Xf with state:= .exhausted,pending:=some .ret}) hS (k:=N) (by simp);have h6:Sat w0 H0 N G aD (w3.putObj (w.heap.size+1)<| .loop {Xf with state:= .exhausted,pending:=some .ret}) H':=h5.weaken fun q hq=>by
     refine fC _<|lF ?_<|Nat.ne_of_lt (lf (hTx G hG) hq).1
     exact fC _ hq
    have:=kx G hG aD _ H' h6;rw[<-haD] at this;exact this
end
section
variable[D:DR]
def aq.iter(P:arb)(w:apT):aq P:=⟨w,UR,none,true,[],w.heap.size,bC _,fun _ h=>h.elim⟩
end
section
variable[D:DR]
variable{P:Program}{w0:aq P}{H0:HV}{N:Nat}{Q:Exit->Act->World->Prop}{Γ az:Ctx}
variable{σ ρ:Type}{r:ρ}{J:σ->Inv->Prop}{I:Inv}{α:Type}{Jx:Inv->Prop}{enc:α->ard Ty}{ts:ard Nat}{fn:Func}{s:σ}{ops:ath Oper}{xs:ard arc}{ty:aq9}{pos:String}{af:ath Edge}{K:σ->atg ρ}{a:Act}{w:apT}{H:HV}{Bd:(σ->atg ρ)->α->σ->atg ρ}{l:Nat}{next:σ->atg ρ}{x:α}{t dy dn:Nat}{r9:ath aq9}{O8 tb:aq9}{pos':String}{Pw:ath Edge}{pL:Ctx}
def af3{σ ρ:Type}(K:σ->atg ρ)(r:ρ)(J:σ->Inv->Prop)(Jx:Inv->Prop)(e:Ending)(w':apT):Prop:=
 (∃v,e= .returned v)/\∃H' I',I'.p w' H'/\(∀r o,H' r=some o->w'.heap[r]? =some o)/\((∃s,K s=some r/\J s I')\/Jx I')
def adE(P:arb)(fn:Func)(R:Ending->apT->Prop):Exit->Act->apT->Prop:=bodyPostM (hC none) 0 P fn R
def wR(l:Nat):Ty:=WE (.func (.yield l) #[] #[]) rfl
def Qf(hX:(w0.ds,w0.rd)=([],none))(hr:fn.results= #[])(hI:look Γ N=some (.inv I))(hK:(∃s,K s=some r/\J s I)\/Jx I)
 (hs:Sat w0 H0 N Γ a w H):LeavesInM (hC none) 0 P fn a.tmps (af3 K r J Jx) a.defers .returning w:=by
 refine sy (congrArg (fun p=>p.1) hX) (congrArg (fun p=>p.2) hX) (a:=a) (ds:=a.defers) hs fun w H hs=>?_
 refine⟨.tuple #[],?_,⟨_,rfl⟩,H,I,(hs.holds _<|ay hI).1,hs.sub,hK⟩;rw[xV (rs:=[]) (by rw[hr])];simp
def Sc(hX:(w0.ds,w0.rd)=([],none))(hr:fn.results= #[])(hI:look Γ N=some (.inv I))(hK:K s=some r)(hJ:J s I):
  lV w0 H0 N (fun a w=>adE P fn (af3 K r J Jx) .normal a w) Γ:=fun _ _ _ hs=>Qf hX hr hI (.inl ⟨s,hK,hJ⟩) hs
def Ml(hX:(w0.ds,w0.rd)=([],none))(hr:fn.results= #[])(hI:look Γ N=some (.inv I))(hJ:Jx I):
  lV w0 H0 N (fun a w=>adE P fn (af3 K r J Jx) .ret a w) Γ:=fun _ _ _ hs=>Qf hX hr hI (.inr hJ) hs
def Cc{gf:FuncId}{c:Code}{oT:ard Ty}{L:ard α}{N:Nat}(hf:P.funcs[gf]? =some fn)(hb:fn.body=some c)(hN:fn.ntmps=N)(hn:oT.length+1<=N)(hc:dY P gf=true)
 (h:∀{σ ρ:Type} (Bd:(σ->atg ρ)->α->σ->atg ρ) (K:σ->atg ρ) (s0:σ) (r:ρ),Kw L Bd s0 K=some r->∀(l:Nat) (J:σ->Inv->Prop) (Jx:Inv->Prop) (w:apT) (H:HV) (I0:Inv),J s0 I0->I0.n=w.heap.size->
 I1 P l enc Bd r J Jx w.heap.size->Goal P (aq.iter P w) H N c (adE P fn<|af3 K r J Jx) ((N,.inv I0)::kV 0 (wR l::oT))):yR P gf oT enc L:=by
 subst hN;refine⟨hc,fun Bd K s0 r hm l J Jx w H cvs I0 sub gl gq hJ hI hIp hy=>?_⟩;have ah6:BF H (wR l::oT) (.func (.yield l) #[] #[]::cvs):=⟨_,_,rfl,rfl,gq⟩;have hS:=Qp (P:=P) (n:=fn.ntmps) sub gl ah6 (by simpa using hn);refine(callsIn_wide (n:=0)).1<|callsIn_of_wp_marks (F:=Fence.wide) hf hb trivial<|h Bd K s0 r hm l J Jx w H I0 hJ hI hy _ w H ?_
 have NV:∀p∈kV 0 (wR l::oT),p.2.iU=false/\∀v b,¬p.2.owns w v b:=by
  have:∀(l:ard Ty) (i:Nat),∀p∈kV i l,p.2.iU=false:=by
   intro l
   induction l with
   |nil=>intro i p hp;simp[kV] at hp
   |cons τ l ih=>
    intro i p hp;simp only[kV,bM] at hp;rcases hp with e|hp
    ·subst e;rfl
    ·exact ih _ p hp
  exact fun p hp=>⟨this _ _ p hp,fun v b=>Gz p hp⟩
 refine⟨trivial,hS.sz,⟨rfl,rfl,rfl,bC _,bC _,fun _ _ _ _=>rfl⟩,fun _ _ _ _=>rfl,hS.sub,?_,?_,hS.gl⟩
 ·intro p hp;rcases bM.1 hp with e|hp
  ·subst e;exact⟨hIp,hI⟩
  ·exact bL.pz (NV p hp).1 (hS.holds p hp) fun b hb=>absurd hb<|(NV p hp).2 _ b
 ·intro p hp q hq hne b hb ji;rcases bM.1 hp with e|hp
  ·rcases bM.1 hq with e'|hq
   ·subst e;subst e';exact hne rfl
   ·exact(NV q hq).2 _ b ji
  ·exact(NV p hp).2 _ b hb
def YU{w':apT}{H':HV}{k:Nat}{I':Inv}(hv:w0.QS=true)(FU:w0.lo=w0.n)(hs:Sat w0 H0 N Γ a w H)(hk:(k,.inv I)∈Γ)(NV:∀q∈bN k Γ,q.2.iU=false)
 (hy:I2 I.M w H w' H')(hI:I'.n=w0.n)(hp:I'.p w' H')(hM:∀b,I'.M b->I.M b\/w.heap.size<=b):Sat w0 H0 N ((k,.inv I')::bN k Γ) a w' H':=by
 have hIk:=hs.holds _ hk;have other:∀q∈bN k Γ,∀b,q.2.owns w (aV a q.1) b-> ¬I.M b:=fun q hq b hb hm=>hs.sep q (bG q hq).1 _ hk (bG q hq).2 b hb hm
 have UY:∀q∈bN k Γ,∀b,q.2.owns w (aV a q.1) b->w'.heap[b]? =w.heap[b]? /\H' b=H b:=fun q hq b hb=>
  hy.kF b (bL.lE (hs.holds q (bG q hq).1) hb).1 (other q hq b hb)
 have key:∀q∈bN k Γ,q.2.holds w0 a w' H' (aV a q.1)/\∀b,q.2.owns w' (aV a q.1) b↔q.2.owns w (aV a q.1) b:=fun q hq=>by
  refine bL.uT (n:=0) (hs.holds q (bG q hq).1) (fun hi=>by rw[NV q hq] at hi;cases hi) ?_;exact⟨hy.size,hy.os,hy.tape,hy.output,hy.drawn,hy.le,fun b _ h=>h.elim (fun h=>by omega)<|fun h=>(UY q hq b h).1,fun b _ h=>h.elim (fun h=>by omega)<|fun h=>(UY q hq b h).2,hy.sub⟩
 refine⟨?_,hs.sz,?_,fun h=>by(rw[hv] at h;cases h),hy.sub,?_,?_,hs.gl.mono hy.le⟩
 ·refine hs.nd.kept fun D _ h1 h2=>?_
  have hn: ¬I.M D:=fun hm=>by
   obtain⟨_,_,o,ho,V4⟩:=I.lt hIk.1 hm;rw[h1] at ho;cases ho;exact V4
  have:=hy.kF D (lt_of_heap h1) hn;exact⟨by rw[this.1];exact h1,by rw[this.2];exact h2⟩
 ·exact⟨hy.os.trans hs.below.os,hy.tape.trans hs.below.tape,hy.output.trans hs.below.output,fc hs.below.drawn hy.drawn,fc hs.below.size hy.size,fun h=>by rw[hv] at h;cases h⟩
 ·intro q hq;rcases bM.1 hq with e|hq
  ·subst e;exact⟨hp,by rw[FU];exact hI⟩
  ·exact(key q hq).1
 ·have low:∀q∈bN k Γ,∀b,q.2.owns w' (aV a q.1) b-> ¬I'.M b:=fun q hq b hb hm=>by
   have hb:=((key q hq).2 b).1 hb;rcases hM b hm with h|h
   ·exact other q hq b hb h
   ·have:=(bL.lE (hs.holds q (bG q hq).1) hb).1;omega
  intro q hq r hr hne b hb ji;rcases bM.1 hq with e|hq<;>rcases bM.1 hr with e'|hr
  ·subst e;subst e';exact hne rfl
  ·subst e;exact low r hr b ji hb
  ·subst e';exact low q hq b hb ji
  ·exact hs.sep q (bG q hq).1 r (bG r hr).1 hne b (((key q hq).2 b).1 hb)<|((key r hr).2 b).1 ji
def ft.ahf{l:ard Oper}(h:ft P w0 N ops l Γ az):pb l=true->∀(l2:ard Oper) (H0:HV) (a:Act) (w:apT) (H:HV),Sat w0 H0 N Γ a w H->∀(Q:Exit->Act->apT->Prop),
  (∀a' w' H',Sat w0 H0 N az a' w' H'->wpListIn (hC w0.rd) 0 P ops Q l2 a' w')->wpListIn (hC w0.rd) 0 P ops Q (l++l2) a w:=by
 induction h with
 |done=>exact fun _ _ _ _ _ H hs _ k=>k _ _ H hs
 |fin h=>exact fun _ _ _ _ _ H hs _ k=>k _ _ H<|hs.weaken h.sub
 | @cons _ _ _ o l h _ ih=>
  intro gq l2 H0 a w H hs Q k;have wj:=h w0 H0 a w H hs (wpListIn (hC w0.rd) 0 P ops Q<|l++l2) Q fun a' w' H' oV=>ih (Nt gq) l2 H0 a' w' H' oV Q k
  show wpListIn _ _ _ _ _ (o::(l++l2)) a w;unfold wpListIn;split
  ·rename_i hw;rw[if_pos hw] at wj;exact HM (xZ gq (by simp)) wj
  ·rename_i hw;rw[if_neg hw] at wj;exact⟨fun _ _=>trivial,wj⟩
 |ghost h _ ih=>
  intro gq l2 H0 a w H hs Q k;obtain⟨H',oV⟩:=h H0 a w H hs;exact ih gq l2 H0 a w H' oV Q k
def yOk(N dy dn:Nat)(Γ:Ctx):Bool:=Γ.all fun p=>p.1 !=N&&p.1 !=dy&&p.1 !=dn&&p.2.bH.all (fun t=>t !=dy&&t !=dn)&& !p.2.iU
def M0
 {Q:Exit->Act->apT->Prop}
 (hv:(w0.QS,w0.rd,w0.X)=(true,none,UR))(FU:w0.lo=w0.n)(hy:I1 P l enc Bd r J Jx w0.n)
 (hm:Bd next x s=some r)(hJ:J s I)(ht:look Γ t=some (.val<|wR l))(ha:aJ Γ xs (enc x))(hI:look Γ N=some (.inv I))(Cd:uX Γ ts pL)(gq:yOk N dy dn pL=true)(hdy:dy<N)(hdn:dn<N)
 (kt:∀s' I',next s'=some r->J s' I'->lV w0 H0 N (Q .normal) ((dn,.val<|aY false)::(N,.inv I')::pL))(kf:∀I',Jx I'->lV w0 H0 N (Q .normal) ((dn,.val<|aY true)::(N,.inv I')::pL))
 (hs:Sat w0 H0 N Γ a w H):
  wpListIn (hC w0.rd) 0 P ops Q [⟨some dy,.call ⟨.value<| .tmp t,xs.toArray,r9⟩,ty,pos,af,none⟩,⟨some dn,.unOp .not tb<| .tmp dy,O8,pos',Pw,none⟩] a w:=by
 obtain⟨hv1,hv2,hv3⟩:w0.QS=true/\w0.rd=none/\w0.X=UR:=by
  refine⟨congrArg (fun p=>p.1) hv,congrArg (fun p=>p.2.1) hv,congrArg (fun p=>p.2.2) hv⟩
 have e1:a.eval (.tmp t)= .func (.yield l) #[] #[]:=hs.holds _<|ay ht
 have hI0:=hs.holds _<|ay hI
 have hIn:I.n=w0.n:=by rw[<-FU];exact hI0.2
 obtain⟨fn,tmps,assign,body,qb,ah1⟩:=hy next x s I w H (xs.map a.eval) hm hJ hIn hI0.1 hs.sub hs.gl<|ha.ok hs
 unfold wpListIn;have hw:Region.wanted (⟨some dy,.call ⟨.value<| .tmp t,xs.toArray,r9⟩,ty,pos,af,none⟩:Oper) (yielded ops a.tmps)=true:=rfl;rw[if_pos hw];refine⟨fun _ _=>trivial,?_⟩;rw[Oper.semAt_eq _ _ _ (by intro c e;cases e)];have e0:execOp a.eval ⟨some dy,.call ⟨.value<| .tmp t,xs.toArray,r9⟩,ty,pos,af,none⟩=Instr.yield l (#[]++xs.toArray.map a.eval++ #[]):=by
  simp only[execOp,resolve,e1,Deferred.ofValue,pure_bind]
  rfl
 have e2:(#[]++xs.toArray.map a.eval++ #[])=(xs.map a.eval).toArray:=by simp
 rw[e0,e2,qb];refine⟨(fun e=>by cases e),?_⟩;rw[hv2];refine RoundIn.mono ah1 ?_;rintro e w' ⟨H',I',ao2,ao1,akI,hM,als⟩;have asm:∀q∈pL,q∈bN N Γ:=fun q hq=>by
  have h1:=db.1 gq q hq;simp only[bV,oj,ne_eq] at h1;exact lF (Cd.sub q hq) h1.1.1.1.1
 have hinv:∀q∈bN N ((N,.inv I)::pL),q.2.iU=false:=fun q hq=>by
  have hq':=bG q hq;rcases bM.1 hq'.1 with e|h
  ·subst e;exact absurd rfl hq'.2
  ·have h1:=db.1 gq q h;simp only[bV,gY] at h1;exact h1.2
 have hs1:Sat w0 H0 N ((N,.inv I)::pL) a w H:=hs.weaken fun q hq=>by
  rcases bM.1 hq with e|h
  ·subst e;exact ay hI
  ·exact Cd.sub q h
 have La:=YU hv1 FU hs1 (k:=N) (by simp) hinv akI ao2 ao1 hM;have hfr:∀d,(d=dy\/d=dn)->mK d ((N,.inv I')::pL)=true:=by
  intro d hd;simp only[mK,rz,bV,db,oj,ne_eq];refine⟨⟨by rcases hd with h|h<;>subst h<;>omega,by simp[bL.bH]⟩,fun q hq=>?_⟩;have h1:=db.1 gq q hq;simp only[bV,oj,ne_eq,db] at h1;obtain⟨⟨⟨⟨h2,h3⟩,h4⟩,h5⟩,h6⟩:=h1;refine⟨by rcases hd with h|h<;>subst h<;>assumption,?_⟩;simp only[gY,IA,kE];intro hm;have:=h5 d hm;rcases hd with h|h<;>subst h
  ·exact this.1 rfl
  ·exact this.2 rfl
 have hs3:Sat w0 H0 N ((N,.inv I')::pL) a w' H':=La.weaken fun q hq=>by
  rcases bM.1 hq with e|h
  ·subst e;simp
  ·refine fC _ (lF (fC _ h) ?_);have h1:=db.1 gq q h;simp only[bV,oj,ne_eq] at h1;exact h1.1.1.1.1
 have fin:∀b:Bool,e= .returned (.bool b)->lV w0 H0 N (Q .normal) ((dn,.val<|aY !b)::(N,.inv I')::pL)->
   (match e with
   | .returned v=>wpListIn (hC none) 0 P ops Q [⟨some dn,.unOp .not tb<| .tmp dy,O8,pos',Pw,none⟩] (a.put (some dy) v) w'
   | .panicked chain=>Q (.panic chain) a w'
   | .outgrown=>LetsOut Q):=by
  intro b eb kk;subst eb;have hs4:=o9 hs3 hdy (hfr dy<| .inl rfl) (s:= .val<|aY b) (v:= .bool b) (by simp[bL.bH]) rfl<|fun c h=>h.elim
  have R0:ft P w0 N ops [⟨some dn,.unOp .not tb<| .tmp dy,O8,pos',Pw,none⟩] ((dy,.val<|aY b)::(N,.inv I')::pL) ((dn,.val<|aY !b)::del dn ((dy,.val<|aY b)::(N,.inv I')::pL)):=
   ft.cons (Step.over (jF (Arg.t (t:=dy) (by simp[look]))) rfl rfl hdn rfl) ft.done
  have:=R0.sound rfl H0 _ w' H' hs4 Q (fun a' w' H' oV=>kk a' w' H' (oV.weaken fun q hq=>by
   rcases bM.1 hq with e|h
   ·subst e;simp
   ·refine fC _ (p6 (fC _ h) ?_ ?_)
    ·exact(wg (hfr dn<| .inr rfl) q h).1
    ·exact(wg (hfr dn<| .inr rfl) q h).2))
  rw[hv2] at this;exact this
 rcases als with⟨rfl,s',KA,hJ'⟩|⟨rfl,hJ'⟩
 ·exact fin true rfl<|kt s' I' KA hJ'
 ·exact fin false rfl<|kf I' hJ'
def X0
 {l1:ard Oper}{id:Nat}{CS:Ctx}
 (hv:(w0.QS,w0.rd,w0.X)=(true,none,UR))(FU:w0.lo=w0.n)(hy:I1 P l enc Bd r J Jx w0.n)
 (hm:Bd next x s=some r)(hJ:J s I)(ah4:ops=List.toArray (l1++([⟨some dy,.call ⟨.value<| .tmp t,xs.toArray,r9⟩,ty,pos,af,none⟩,⟨some dn,.unOp .not tb<| .tmp dy,O8,pos',Pw,none⟩]:ard Oper)))(ah5:pb l1=true)(R0:ft P w0 N ops l1 Γ CS)
 (ht:look CS t=some (.val<|wR l))(ha:aJ CS xs (enc x))(hI:look CS N=some (.inv I))(Cd:uX CS ts pL)(gq:yOk N dy dn pL=true)(hdy:dy<N)(hdn:dn<N)
 (kt:∀s' I',next s'=some r->J s' I'->lV w0 H0 N (Q .normal) ((dn,.val<|aY false)::(N,.inv I')::pL))(kf:∀I',Jx I'->lV w0 H0 N (Q .normal) ((dn,.val<|aY true)::(N,.inv I')::pL)):
  Goal P w0 H0 N (.region id ops false) Q Γ:=by
 subst ah4;exact fun a w H hs=>wpIn_region_lit<|R0.ahf ah5 _ H0 a w H hs Q fun a' w' H' oV=>M0 hv FU hy hm hJ ht ha hI Cd gq hdy hdn kt kf oV
def Uo
 {id k:Nat}{CS:Ctx}{tsr:ard Nat}{S:ard Ctx}
 (hv:(w0.QS,w0.rd,w0.X)=(true,none,UR))(FU:w0.lo=w0.n)(hy:I1 P l enc Bd r J Jx w0.n)
 (hm:Bd next x s=some r)(hJ:J s I)(kl:ard (ard<|Nat×ard Nat))(L:ard Nat)(av gP:ard (ard Nat))(gK:ard Bool)(II:P.follows .mixedOrders=true)(hc:(Be ops av&&Pu k kl gP gK L av&&vE ops k av)=true)
 (ah5:pb (ops.toList.take k)=true)(hp:cd P N ops Γ [] (ops.toList.take k) gP gK S)(IJ:S.reverse.map Ar=kl)(hL:rB Γ=L)(hsl:uX (S.flatten++Γ) ts CS)
 (ah4:ops.toList.drop k=[⟨some dy,.call ⟨.value<| .tmp t,xs.toArray,r9⟩,ty,pos,af,none⟩,⟨some dn,.unOp .not tb<| .tmp dy,O8,pos',Pw,none⟩])
 (ht:look CS t=some (.val<|wR l))(ha:aJ CS xs (enc x))(hI:look CS N=some (.inv I))(Cd:uX CS tsr pL)(gq:yOk N dy dn pL=true)(hdy:dy<N)(hdn:dn<N)
 (kt:∀s' I',next s'=some r->J s' I'->lV w0 H0 N (Q .normal) ((dn,.val<|aY false)::(N,.inv I')::pL))(kf:∀I',Jx I'->lV w0 H0 N (Q .normal) ((dn,.val<|aY true)::(N,.inv I')::pL)):
  Goal P w0 H0 N (.region id ops true) Q Γ:=by
 simp only[bV] at hc;refine fun a w H hs=>WO II ah5 hc.1.1 hc.1.2 hc.2 IJ hL hp hsl (H0:=H0) (fun a w H hs=>?_) hs
 rw[ah4];exact M0 hv FU hy hm hJ ht ha hI Cd gq hdy hdn kt kf hs
def ajC{P:arb}{α σ ρ:Type}(w0:aq P)(H0:HV)(N:Nat)(J:σ->Inv->Prop)(st:α->σ)(Mm:α->Ctx)(k:α->atg ρ)(r:ρ)(a:Act)(w:apT):Prop:=
 ∃i I,k i=some r/\J (st i) I/\∃H,Sat w0 H0 N ((N,.inv I)::Mm i) a w H
def afP(st:α->σ)(Mm:α->Ctx){K:α->atg ρ}{E:(α->atg ρ)->atg ρ}{x:Code}(hm:jn K E=some r)
 (h:∀k,E k=some r->Goal P w0 H0 N x (Exit.then (ajC w0 H0 N J st Mm k r) Q) Γ)(kk:∀i I,K i=some r->J (st i) I->lV w0 H0 N (Q .normal) ((N,.inv I)::Mm i)):Goal P w0 H0 N x Q Γ:=
 fun a w H hs=>BR (h K hm a w H hs) fun e a' w' q=>by
  cases e with
  |normal=>obtain⟨i,I,hi,hJ,H',oV⟩:=q;exact kk i I hi hJ a' w' H' oV
  |_=>exact q
def GC{st:α->σ}{Mm:α->Ctx}{k:α->atg ρ}{i:α}(hm:k i=some r)(hJ:J (st i) I)(h:uX Γ ts ((N,.inv I)::Mm i)):
  lV w0 H0 N (fun a w=>ajC w0 H0 N J st Mm k r a w) Γ:=fun _ _ H hs=>⟨i,I,hm,hJ,H,hs.weaken h.sub⟩
def IQ{τ:Type}(st:τ->σ)(c8:τ->Ctx){n:Nat}{B:(τ->atg ρ)->τ->atg ρ}{s0:τ}{I0:Inv}{c:Code}(hm:lp n B s0=some r)(hJ:J (st s0) I0)(h0:uX Γ ts ((N,.inv I0)::c8 s0))
 (round:∀(k:τ->atg ρ) (s:τ) (I:Inv),B k s=some r->J (st s) I->Goal P w0 H0 N c (Exit.then (ajC w0 H0 N J st c8 k r) Q) ((N,.inv I)::c8 s)):Goal P w0 H0 N (.loop c) Q Γ:=by
 intro a w H hs;refine wp_loop_ghost (fun(i:Nat×τ) a w=>lp i.1 B i.2=some r/\∃I H,J (st i.2) I/\Sat w0 H0 N ((N,.inv I)::c8 i.2) a w H) (fun i=>i.1) (n,s0) ⟨hm,I0,H,hJ,hs.weaken h0.sub⟩ ?_;rintro⟨m,s⟩ a w ⟨hl,I,H,hJ,hs⟩;cases m with
 |zero=>cases hl
 |succ m=>
  refine BR (round (lp m B) s I hl hJ a w H hs) fun e a' w' q=>?_
  cases e with
  |normal=>obtain⟨i,I',hi,hJ',H',oV⟩:=q;exact⟨(m,i),⟨hi,I',H',hJ',oV⟩,Nat.lt_succ_self m⟩
  |_=>exact q
def Bz{o:atg (ard α)}{f:FuncId}{oT:ard Ty}{d:atg Tmp}{g:atg (Nat×Bool)}(ha:aJ Γ xs oT)(h:∀L,o=some L->yR P f oT enc L):
  bI P Γ ⟨d,.makeFunc (.func f) #[] xs.toArray,ty,pos,af,g⟩ (.val<|Sl P enc o):=
 bb fun _ _ _ a w H hs=>by
  refine⟨.func (.func f) #[] (xs.map a.eval).toArray,?_,⟨f,_,oT,rfl,by simpa using ha.ok hs,h⟩,rfl⟩;simp[execOp,Instr.makeFunc]
end
section
variable[D:DR]
variable{P:Program}{w0:aq P}{H0:HV}{N:Nat}{ops:Array Oper}{Q:Exit->Act->World->Prop}{Γ az:Ctx}{d:Option Tmp}{ty:TypeId}{pos:String}{af:Array Edge}{g:Option (Nat×Bool)}
variable{w:apT}{a:Act}{H:HV}{B:aq P}{i:Nat}{ps:ard lA}
def ff:ard lA->Nat->Nat
 |[],_=>0
 |_::_,0=>0
 |p::l,i+1=>p.n+ff l i
def pv(p:lA)(off:Nat)(cs:ard apU):apU:=JF p.agg ((cs.drop off).take p.n).toArray
def sr{w:apT}{b:Nat}:∀{ps:ard lA} {cs:ard apU},oy w b ps cs↔∃(i:Nat) (p:lA),ps[i]? =some p/\p.owns w (pv p (ff ps i) cs) b
 |[],cs=>by simp[oy]
 |p::l,cs=>by
  simp only[oy,sr (ps:=l)];constructor
  ·rintro(h|⟨i,q,h1,h2⟩)
   ·exact⟨0,p,rfl,by simpa[pv,ff] using h⟩
   ·exact⟨i+1,q,by simpa using h1,by simpa[pv,ff,iF] using h2⟩
  ·rintro⟨i,q,h1,h2⟩;cases i with
   |zero=>simp at h1;subst h1;exact .inl (by simpa[pv,ff] using h2)
   |succ i=>exact .inr ⟨i,q,by simpa using h1,by simpa[pv,ff,iF] using h2⟩
def Nd{w:apT}:∀{ps:ard lA} {cs:ard apU},K1 w ps cs↔∀(i j:Nat) (p q:lA),i<j->ps[i]? =some p->ps[j]? =some q->∀b,p.owns w (pv p (ff ps i) cs) b-> ¬q.owns w (pv q (ff ps j) cs) b
 |[],cs=>by simp[K1]
 |p::l,cs=>by
  simp only[K1,Nd (ps:=l)];constructor
  ·rintro⟨h1,h2⟩ i j a b Sv ha hb c hc zG;cases j with
   |zero=>omega
   |succ j=>
    have ji:l[j]? =some b:=by simpa using hb
    have Qn:b.owns w (pv b (ff l j)<|cs.drop p.n) c:=by simpa[pv,ff,iF] using zG
    cases i with
    |zero=>
     simp at ha;subst ha;exact h1 c (by simpa[pv,ff] using hc)<|sr.2 ⟨j,b,ji,Qn⟩
    |succ i=>exact h2 i j a b (by omega) (by simpa using ha) ji c (by simpa[pv,ff,iF] using hc) Qn
  ·intro h;refine⟨fun b hb ho=>?_,fun i j a b Sv ha hb c hc zG=>?_⟩
   ·obtain⟨j,q,h1,h2⟩:=sr.1 ho;exact h 0 (j+1) p q (by omega) rfl (by simpa using h1) b (by simpa[pv,ff] using hb) (by simpa[pv,ff,iF] using h2)
   ·exact h (i+1) (j+1) a b (by omega) (by simpa using ha) (by simpa using hb) c (by simpa[pv,ff,iF] using hc) (by simpa[pv,ff,iF] using zG)
def xR{n:Nat}{agg:Bool}{v:apU}(h:Shape n agg v):v.cells.toList.length=n:=by simpa using h.size
def DD{B:aq P}{a:Act}{w:apT}{H:HV}:∀{ps:ard lA} {cs:ard apU} {i:Nat} {p:lA},P8 B a w H ps cs->ps[i]? =some p->
  ff ps i+p.n<=cs.length/\Shape p.n p.agg (pv p (ff ps i) cs)/\p.holds B a w H (pv p (ff ps i) cs)/\(pv p (ff ps i) cs).cells.toList=(cs.drop<|ff ps i).take p.n
 |[],_,i,_,_,h=>by simp at h
 |p::l,_,0,q,⟨v,rest,e,nP,hv,hr⟩,h=>by
  simp at h;subst h;subst e;have hl:=xR nP;have e1:pv p (ff (p::l) 0) (v.cells.toList++rest)=v:=by simpa[pv,ff] using(nM (rest:=rest) nP).1
  rw[e1];refine⟨by simp[ff];have:=nP.size;omega,nP,hv,?_⟩;simp only[ff,xA];rw[<-hl,LO]
 |p::l,_,i+1,q,⟨v,rest,e,nP,hv,hr⟩,h=>by
  simp at h;subst e;obtain⟨h1,h2,h3,h4⟩:=DD hr h;have hd:List.drop (ff (p::l)<|i+1) (v.cells.toList++rest)=List.drop (ff l i) rest:=by
   simp only[ff];rw[<-xR nP,yE];simp
  have e1:pv q (ff (p::l)<|i+1) (v.cells.toList++rest)=pv q (ff l i) rest:=by simp only[pv,hd]
  rw[e1,hd];refine⟨?_,h2,h3,h4⟩;have:=nP.size;simp[ff];omega
def Xl{B:aq P}{a:Act}{w:apT}{H:HV}:∀{ps:ard lA} {cs:ard apU} {i:Nat} {p q:lA} {x:apU},P8 B a w H ps cs->ps[i]? =some p->Shape q.n q.agg x->q.n=p.n->q.holds B a w H x->
  P8 B a w H (ps.set i q) (cs.take (ff ps i)++x.cells.toList++cs.drop (ff ps i+p.n))/\ff (ps.set i q) i=ff ps i/\pv q (ff ps i) (cs.take (ff ps i)++x.cells.toList++cs.drop (ff ps i+p.n))=x/\
  ∀(j:Nat) (r:lA),j≠i->ps[j]? =some r->ff (ps.set i q) j=ff ps j/\pv r (ff ps j) (cs.take (ff ps i)++x.cells.toList++cs.drop (ff ps i+p.n))=pv r (ff ps j) cs
 |[],_,i,_,_,_,_,h,_,_,_=>by simp at h
 |p::l,_,0,q,r,x,⟨v,rest,e,nP,hv,hr⟩,h,hx,hn,hq=>by
  simp at h;subst h;subst e;have hl:=xR nP;have FT:=xR hx;have hd:List.drop (ff (p::l) 0+p.n) (v.cells.toList++rest)=rest:=by
   simp only[ff,vy];rw[<-hl,EC]
  rw[hd];simp only[List.set_cons_zero,ff,List.take_zero,zz];refine⟨⟨x,rest,rfl,hx,hq,hr⟩,trivial,by simpa[pv] using(nM (rest:=rest) hx).1,?_⟩;intro j s hj hs;cases j with
  |zero=>exact absurd rfl hj
  |succ j=>
   simp only[ff,hn,true_and,pv];have e1:List.drop (p.n+ff l j) (x.cells.toList++rest)=List.drop (ff l j) rest:=by rw[<-hn,<-FT,yE];simp
   have e2:List.drop (p.n+ff l j) (v.cells.toList++rest)=List.drop (ff l j) rest:=by rw[<-hl,yE];simp
   rw[e1,e2]
 |p::l,_,i+1,q,r,x,⟨v,rest,e,nP,hv,hr⟩,h,hx,hn,hq=>by
  simp at h;subst e;have hl:=xR nP;obtain⟨h1,h2,h3,h4⟩:=Xl hr h hx hn hq;have et:List.take (ff (p::l)<|i+1) (v.cells.toList++rest)=v.cells.toList++List.take (ff l i) rest:=by
   simp only[ff];rw[<-hl,Iw];simp[eJ]
  have ed:List.drop (ff (p::l) (i+1)+q.n) (v.cells.toList++rest)=List.drop (ff l i+q.n) rest:=by
   simp only[ff];rw[<-hl,tu,yE];simp
   done
  have ec:List.take (ff (p::l)<|i+1) (v.cells.toList++rest)++x.cells.toList++List.drop (ff (p::l) (i+1)+q.n) (v.cells.toList++rest)=v.cells.toList++(List.take (ff l i) rest++x.cells.toList++List.drop (ff l i+q.n) rest):=by
   rw[et,ed];simp[rQ]
  rw[ec];have sh:∀(s:lA) (o:Nat) (AA:ard apU),pv s (p.n+o) (v.cells.toList++AA)=pv s o AA:=fun s o AA=>by
   simp only[pv];have:List.drop (p.n+o) (v.cells.toList++AA)=List.drop o AA:=by
    rw[yE,wK (by omega),hl];simp
   rw[this]
  refine⟨⟨v,_,rfl,nP,hv,h1⟩,by simp[ff,h2],?_,?_⟩
  ·simp only[ff];rw[sh];exact h3
  ·intro j s hj hs;cases j with
   |zero=>
    simp at hs;subst hs;refine⟨rfl,?_⟩;simp only[ff];have g1:=(nM (rest:=List.take (ff l i) rest++x.cells.toList++List.drop (ff l i+q.n) rest) nP).1;have g2:=(nM (rest:=rest) nP).1;simp only[pv,xA];rw[g1,g2]
   |succ j=>
    obtain⟨k1,k2⟩:=h4 j s (by omega) (by simpa using hs);refine⟨by simp[ff,k1],?_⟩;simp only[ff];rw[sh,sh];exact k2
def Gw{α:Type}{l:ard α}{j:Nat}{x:α}(h:j≠i):(l.set i x)[j]? =l[j]? :=by
 rw[List.getElem?_set_ne<|Ne.symm h]
def Nr{cs:ard apU}{p q:lA}{x:apU}(h:P8 B a w H ps cs)(hs:K1 w ps cs)(hi:ps[i]? =some p)(hx:Shape q.n q.agg x)(hn:q.n=p.n)(hq:q.holds B a w H x)
 (ab6:∀b,q.owns w x b->p.owns w (pv p (ff ps i) cs) b\/ ¬oy w b ps cs):
  ∃AA,AA=cs.take (ff ps i)++x.cells.toList++cs.drop (ff ps i+p.n)/\P8 B a w H (ps.set i q) AA/\K1 w (ps.set i q) AA/\
   (∀b,oy w b (ps.set i q) AA->q.owns w x b\/(oy w b ps cs/\ ¬p.owns w (pv p (ff ps i) cs) b)):=by
 obtain⟨h1,h2,h3,h4⟩:=Xl h hi hx hn hq;have hlt:=(iG.1 hi).1;have at':∀j s,(ps.set i q)[j]? =some s->(j=i/\s=q)\/(j≠i/\ps[j]? =some s):=fun j s hj=>by
  by_cases e:j=i
  ·subst e;rw[EH hlt] at hj;exact .inl ⟨rfl,(fj hj).symm⟩
  ·exact .inr ⟨e,by rwa [Gw e] at hj⟩
 have oV:=Nd.1 hs;have sym:∀j s,j≠i->ps[j]? =some s->∀b,s.owns w (pv s (ff ps j) cs) b-> ¬p.owns w (pv p (ff ps i) cs) b:=fun j s hj hjs b hb ji=>by
  rcases Nat.lt_or_gt_of_ne hj with h|h
  ·exact oV j i s p h hjs hi b hb ji
  ·exact oV i j p s h hi hjs b ji hb
 have akc:∀j s,j≠i->ps[j]? =some s->∀b,s.owns w (pv s (ff ps j) cs) b-> ¬q.owns w x b:=fun j s hj hjs b hb ji=>by
  rcases ab6 b ji with h|h
  ·exact sym j s hj hjs b hb h
  ·exact h<|sr.2 ⟨j,s,hjs,hb⟩
 refine⟨_,rfl,h1,Nd.2 ?_,fun b hb=>?_⟩
 ·intro j k s t hjk hj hk b hb ji;rcases at' j s hj with⟨rfl,rfl⟩|⟨nj,ej⟩<;>rcases at' k t hk with⟨rfl,rfl⟩|⟨nk,ek⟩
  ·omega
  ·rw[h2,h3] at hb;rw[(h4 k t nk ek).1,(h4 k t nk ek).2] at ji;exact akc k t nk ek b ji hb
  ·rw[h2,h3] at ji;rw[(h4 j s nj ej).1,(h4 j s nj ej).2] at hb;exact akc j s nj ej b hb ji
  ·rw[(h4 j s nj ej).1,(h4 j s nj ej).2] at hb;rw[(h4 k t nk ek).1,(h4 k t nk ek).2] at ji;exact oV j k s t hjk ej ek b hb ji
 ·obtain⟨j,s,hj,hb⟩:=sr.1 hb;rcases at' j s hj with⟨rfl,rfl⟩|⟨nj,ej⟩
  ·rw[h2,h3] at hb;exact .inl hb
  ·rw[(h4 j s nj ej).1,(h4 j s nj ej).2] at hb;exact .inr ⟨sr.2 ⟨j,s,ej,hb⟩,sym j s nj ej b hb⟩
def Xg{cs:ard apU}{p:lA}(h:P8 B a w H ps cs)(hi:ps[i]? =some p):
  cs.take (ff ps i)++(pv p (ff ps i) cs).cells.toList++cs.drop (ff ps i+p.n)=cs:=by
 obtain⟨h1,_,_,h4⟩:=DD h hi;rw[h4,<-iF,rQ,yI,yI]
def Jo{t dd:Nat}{s s' sd:bL}{v:apU}(hs:Sat w0 H0 N Γ a w H)(ht:(t,s)∈Γ)(na:dd<N)(hne:dd≠t)(hl:dd∉sd.bH)
 (oV:s'.holds w0 (a.put (some dd) v) w H (aV a t))(hv:sd.holds w0 a w H v)(o1:∀b,s'.owns w (aV a t) b->s.owns w (aV a t) b)(o2:∀b,sd.owns w v b->s.owns w (aV a t) b)
 (o3:∀b,sd.owns w v b-> ¬s'.owns w (aV a t) b):Sat w0 H0 N ((dd,sd)::(t,s')::del dd (bN t Γ)) (a.put (some dd) v) w H:=by
 have sub:∀q∈del dd (bN t Γ),q∈Γ/\q.1≠t:=fun q hq=>bG q<|kB q hq
 have h1:Sat w0 H0 N ((dd,sd)::del dd (bN t Γ)) (a.put (some dd) v) w H:=
  o9 (hs.weaken fun q hq=>(sub q hq).1) na pF hl hv fun b hb q hq Uc=>hs.sep _ ht q (sub q hq).1 (fun e=>(sub q hq).2 e.symm) b (o2 b hb) Uc
 have et:aV (a.put (some dd) v) t=aV a t:=ll hne;have ed:aV (a.put (some dd) v) dd=v:=sD (by rw[hs.sz];exact na);have eo:∀q∈del dd (bN t Γ),aV (a.put (some dd) v) q.1=aV a q.1:=fun q hq=>ll (Ol hq).1.symm
 have key:∀q∈(dd,sd)::del dd (bN t Γ),∀b,s'.owns w (aV a t) b-> ¬q.2.owns w (aV (a.put (some dd) v) q.1) b:=fun q hq b hb Uc=>by
  rcases bM.1 hq with e|hq
  ·subst e;rw[ed] at Uc;exact o3 b Uc hb
  ·rw[eo q hq] at Uc;exact hs.sep _ ht q (sub q hq).1 (fun e=>(sub q hq).2 e.symm) b (o1 b hb) Uc
 have h2:Sat w0 H0 N ((t,s')::(dd,sd)::del dd (bN t Γ)) (a.put (some dd) v) w H:=by
  refine⟨h1.nd,h1.sz,h1.below,h1.I7,h1.sub,?_,?_,h1.gl⟩
  ·intro q hq;rcases bM.1 hq with e|hq
   ·subst e;simp only;rw[et];exact oV
   ·exact h1.holds q hq
  ·intro q hq r hr hn b hb ji;rcases bM.1 hq with e|hq<;>rcases bM.1 hr with e'|hr
   ·subst e;subst e';exact hn rfl
   ·subst e;simp only at hb;rw[et] at hb;exact key r hr b hb ji
   ·subst e';simp only at ji;rw[et] at ji;exact key q hq b ji hb
   ·exact h1.sep q hq r hr hn b hb ji
 refine h2.weaken fun q hq=>?_
 simp only[bM] at hq⊢;rcases hq with h|h|h
 ·exact .inr<| .inl h
 ·exact .inl h
 ·exact .inr<| .inr h
inductive iV(Γ:Ctx):Nat->Nat->Nat->Prop where
 |ptr {p t off:Nat} (h:look Γ p=some (.ptr t off)):iV Γ p t off
 |box {t:Nat} {T:aq9} {g:Bool} {ps:ard lA} (h:look Γ t=some (.qH T g ps)):iV Γ t t 0
def iV.ok{p t off:Nat}{T:aq9}{gg:Bool}(h:iV Γ p t off)(ht:look Γ t=some (.qH T gg ps))(hs:Sat w0 H0 N Γ a w H):
  ∃b cs,aV a t= .pointer (some ⟨b,0,none⟩)/\a.eval (.tmp p)= .pointer (some ⟨b,off,none⟩)/\w.heap[b]? =some (.cells cs T (0,0))/\H b=none/\w0.mg b/\P8 w0 a w H ps cs.toList/\K1 w ps cs.toList/\ ¬oy w b ps cs.toList:=by
 obtain⟨b,cs,e,hb,hn,hm,ho,K8,hx⟩:=hs.holds _<|ay ht
 simp only at e;refine⟨b,cs,e,?_,hb,hn,hm,ho,K8,hx⟩;cases h with
 |ptr h=>
  obtain⟨b',e1,e2⟩:=hs.holds _<|ay h
  simp only at e1 e2;rw[e] at e1;cases e1;exact e2
 |box h=>exact e
end
end Trn
