/- Part of SolidCuts. -/
import Derived.Test.YtieipfegkfhllaaGreatDoorHb
import Derived.Test.YtieipfegkfhllaaGreatDoorTie
import Derived.Test.YtieipfegkfhllaaGreatDoorCards
import Derived.LaidMore
import Derived.OpenShut
import Derived.ProofKit
import Derived.Stop.LaidErr
set_option maxRecDepth 100000
set_option maxHeartbeats 20000000
set_option linter.all false
open Go Go.RowKit Go.Proofs Go.Proofs.Tryz
namespace Trn
namespace acm
section
open Go.ChangeShapes Go.WideShapes
noncomputable abbrev RW:=Go.Proofs.YtieipfegkfhllaaGreatDoor.Rows.solidCutsRow
noncomputable abbrev SP:=Go.Proofs.YtieipfegkfhllaaGreatDoor.Rows.solidCutsSpec
theorem own:ownKnob Tryz.prog.godebug=none:=A7
theorem laidOut:laidOutB Tryz.prog=true:=A7
theorem alF(os:Os)(args:B8 AV):laidMetH Tryz.prog RW.laid ((World.doorLaid Tryz.prog 62 os).forCall (λ_ _=>0) ⟨#[],args,[]⟩).memory:=laidMetH_of_parts3 (fuel:=8) (laidMet_of_run' 8 A7 A7) A7 A7
theorem anC(P:CF)(c:OpenClaim)(h:P.funcs.any Func.goes=false)(hs:c.start= .entering):false=c.goesBy P:=by
 have key:∀f,P.goes f=false:=by
  intro f;unfold Program.goes;rw[h,gz,ZI];rw[ZV];intro g hg;cases hf:P.funcs[g]? with
  |none=>simp
  |some fn=>obtain⟨hlt,rfl⟩:=SK.1 hf;have:=Array.any_eq_false.1 h g hlt;simpa using this
 have h2:∀s,P.goesFrom s=false:=λs=>by unfold Program.goesFrom;cases P.funcNamed s with|none=>rfl|some f=>exact key f
 unfold OpenClaim.goesBy Program.goesAt;rw[h2,hs];rfl
theorem anD:false=RW.goesBy Tryz.prog:=anC _ _ A7 rfl
def j9:AA TypeDesc->Bool
 |some (.int _)=>false|some (.array 20 _)=>false|_=>true
theorem Vr{P:CF}{T:Am}{o:AA Obj}(h:j9 (P.underlying T)=true):SQ P T o:=by
 unfold SQ;split
 .rename_i hu;rw[hu] at h;cases h
 .rename_i hu;rw[hu] at h;cases h
 .trivial
theorem anE{w:AR}(CS:w.ShapedOpen Tryz.prog)(hL:laidMetH Tryz.prog RW.laid w.memory):LP Tryz.prog (λr=>w.heap[r]?):=by
 rw[MakeChecks.laidMetH_plain _ _ _ A7] at hL;have hT:=Lib.tabIs_of_head (name:= "internal/strconv.uint64pow10") (k:= .u64) (zs:=Lib.pow10Tab) (g:=5) (t:=379) (e:=251) (n:=20) A7 A7 A7 A7 A7 A7 hL.tail.tail;have hint:∃m E fr,w.heap[0]? =some (.cells #[.int .i64 m] E fr):=by
  obtain⟨cs,h1,h2,h3⟩:=CS.1 0 #[.int .i64 0] 3 (Ar A7) A7;obtain⟨ts,hts,_,hall⟩:=h3 A7;have e:Tryz.prog.cellTypes Tryz.prog.depth 3=some [3]:=A7;rw[e] at hts;cases hts;obtain⟨l⟩:=cs
  match l,h2 with
  |[c],_=>
   obtain⟨u,hu,Aw⟩:=hall 0 c rfl;have hu:u=3:=by simpa using hu.symm
   subst hu;have ht:Tryz.prog.underlying 3=some (.int .i64):=A7;unfold Cell.ok at Aw;rw[ht] at Aw;cases c with
   |int k m=>obtain⟨rfl,_⟩:=Aw;exact⟨m,_,_,h1⟩
   |_=>simp at Aw
 have htab:∃E fr,w.heap[5]? =some (.cells eN E fr):=by
  unfold Lib.TabIs World.var? at hT;rw[show Tryz.prog.globalNamed "internal/strconv.uint64pow10" =some 5 by kernel_rfl] at hT;have hT:(match w.heap[5]? with|some (Obj.cells cs _ _)=>some cs|_=>none)=some ((Lib.pow10Tab.map λz=>Value.int .u64 z).toArray):=hT;split at hT
  .rename_i cs E fr h;have e:eN=(Lib.pow10Tab.map λz=>Value.int .u64 z).toArray:=A7;rw[e,<-E8 hT];exact⟨E,fr,h⟩
  .cases hT
 intro g T hg;have types:Tryz.prog.globals.toList.map (·.type)=[3,256,256,256,256,379,387,388]:=A7;have hg':(Tryz.prog.globals.toList.map (·.type))[g]? =some T:=by rw[Gy,Pm];exact hg
 rw[types] at hg';have u3:Tryz.prog.underlying 3=some (.int .i64):=A7;have jk:j9 (Tryz.prog.underlying 256)=true:=A7;have arh:j9 (Tryz.prog.underlying 387)=true:=A7;have arf:j9 (Tryz.prog.underlying 388)=true:=A7;have ari:Tryz.prog.underlying 379=some (.array 20 251):=A7
 match g,hg' with|0,e=>cases e;unfold SQ;rw[u3];exact hint|1,e=>cases e;exact Vr jk|2,e=>cases e;exact Vr jk|3,e=>cases e;exact Vr jk|4,e=>cases e;exact Vr jk|5,e=>cases e;unfold SQ;rw[ari];exact htab|6,e=>cases e;exact Vr arh|7,e=>cases e;exact Vr arf|g+8,e=>simp at e
theorem n9{Hh:Type}{enc:Am×AV->Hh}{P:CF}{w:AR}{base:Nat}{spare:Nat->Bool}{held:Bool}{α:Type}{f:α->Ty}{R:α->Prop}{t e:Am}{k:Nat}
  (ht:P.underlying t=some (.slice e))(hc:P.cellsOf e=k)(hk:0<k)(hn:∀x,(f x).n=k)
  (elem:∀n cs y,DataW.trod enc P w base spare held n e cs=some y->∃x u,R x/\u.cells.toList=cs/\(f x).ok (λr=>w.heap[r]?) u)
  (n0:Nat)(cs0:A3 AV)(y0:DataW Hh×A3 MemPlace)(hf:DataW.trod enc P w base spare held n0 t cs0=some y0):∃(x:A3 α) (u:AV),(∀y∈x,R y)/\u.cells.toList=cs0/\(TL f x).ok (λr=>w.heap[r]?) u:=by
 rcases DataW.trod_slice ht hf with⟨e0,_⟩|⟨a,len,cap,elems,rest,n,_,e0,_,_,hl,_,hlen,hel,_,_⟩
 .exact⟨[],.slice none 0 0,λy my=>(by cases my),e0.symm,zTL⟩
 .have hw:0<len->a.spot=none/\∃cs E fr,w.heap[a.block]? =some (.cells cs E fr):=λh0=>by
   have hy:=hel 0 h0;obtain⟨y,hy'⟩:∃y,elems[0]? =some y:=⟨_,Gf A4⟩;rw[hy',Option.bind_eq_some_iff] at hy;obtain⟨ci,hci,_⟩:=hy;rw[hc] at hci;obtain⟨_,c1,c2⟩:=World.cells?_some hci;have c0:=c2 0 hk;rw[Gf (show 0<ci.length by omega)] at c0;have e1:(a.add<|0*k).add 0=a:=by simp[Addr.add]
   rw[e1] at c0;unfold World.cell? at c0;split at c0
   .rename_i c E fr hq;refine⟨?_,c,E,fr,hq⟩;cases hs:a.spot with|none=>rfl|some z=>rw[hs] at c0;cases c0
   .cases c0
  have ok0:len=0\/0<len:=A4;rcases ok0 with rfl|h0
  .exact⟨[],.slice (some a) 0 cap,λy my=>(by cases my),e0.symm,⟨some a,cap,rfl,hl,λhne=>absurd rfl hne⟩⟩
  obtain⟨hs,cs,E,fr,hq⟩:=hw h0;have cell:∀j,w.cell? (a.add j)=cs[a.off+j]? :=λj=>by
   unfold World.cell? Addr.add;by_cases h0:j=0
   .subst h0;simp[hq,hs]
   .simp[h0,hq]
  have main:∀m,m<=len->∃l:A3 α,l.length=m/\DT (λr=>w.heap[r]?) (lT f l) ((cs.toList.drop a.off).take<|m*k)/\(∀y∈l,R y)/\(0<m->a.off+m*k<=cs.size):=by
   intro m
   induction m with
   |zero=>intro _;exact⟨[],rfl,by simp[lT,DT],AX,A4⟩
   |succ m ih=>
    intro hm;obtain⟨l,l1,l2,l3,l4⟩:=ih A4;have hy:=hel m A4;obtain⟨y,hy'⟩:∃y,elems[m]? =some y:=⟨_,Gf A4⟩;rw[hy',Option.bind_eq_some_iff] at hy;obtain⟨ci,hci,htr⟩:=hy;rw[hc] at hci;obtain⟨_,c1,c2⟩:=World.cells?_some hci;obtain⟨x,u,hx,hu,Aw⟩:=elem _ _ _ htr;have at_:∀j,j<k->cs[a.off+m*k+j]? =ci[j]? :=λj hj=>by
     rw[<-c2 j hj];have:(a.add<|m*k).add j=a.add (m*k+j):=by
      unfold Addr.add;by_cases h0:j=0
      .subst h0;simp
      .by_cases h1:m*k=0
       .simp[h0,h1]
       .have h2:m*k+j≠0:=A4;simp[h0,h1,h2,LD]
     rw[this,cell];congr 1;omega
    have le:a.off+(m+1)*k<=cs.size:=by have:=at_ (k-1) A4;rw[Gf (show k-1<ci.length by omega)] at this;obtain⟨hlt,_⟩:=SK.1 this;rw[S4];omega
    have take:(cs.toList.drop<|a.off+m*k).take k=ci:=by
     apply WC;intro j;by_cases hj:j<k
     .rw[List.getElem?_take_of_lt hj,U6,Pm,at_ j hj]
     .rw[List.getElem?_eq_none (by rw[E1];omega),List.getElem?_eq_none A4]
    refine⟨l++[x],by simp[l1],?_,λy my=>?_,λ_=>?_⟩
    .rw[S4,List.take_add,FR,take];show DT _ ((l++[x]).map f) _;rw[Ge];exact Rb l2 ⟨u,[],by rw[hu];simp,Aw,rfl⟩
    .rcases C3.1 my with my|my
     .exact l3 y my
     .rw[Cn.1 my];exact hx
    .exact le
  obtain⟨l,l1,l2,l3,l4⟩:=main len<|BK _
  have ll:(lT f l).length=len:=by rw[Be,l1]
  have cn:∀l:A3 α,CR (lT f l)=l.length*k:=λl=>by induction l with|nil=>simp|cons x l ih=>show CR (f x::lT f l)=_;rw[mX,ih,hn,E6,S4,PW]
  refine⟨l,.slice (some a) len cap,l3,e0.symm,some a,cap,by rw[ll],by rw[ll];exact hl,λhne=>⟨a.block,a.off,cs,E,fr,?_,hq,?_,?_⟩⟩
  .obtain⟨b,o,sp⟩:=a;dsimp only at hs;rw[hs]
  .rw[cn,l1];refine l4<|Nat.pos_of_ne_zero λh0=>hne ?_
   rw[h0] at ll;exact LN ll
  .rw[cn,l1];exact l2
theorem y4{Hh:Type}{enc:Am×AV->Hh}{P:CF}{w:AR}{r:Reach}{base rH:Nat}{spare:Nat->Bool}{held:Bool}{α:Type}{f:α->Ty}{R:α->Prop}{t e:Am}{k:Nat}{v:AV}{d:DataW Hh}{ps:A3 MemPlace}
  (ht:P.underlying t=some (.slice e))(hc:P.cellsOf e=k)(hk:0<k)(hn:∀x,(f x).n=k)
  (elem:∀n cs y,DataW.trod enc P w base spare held n e cs=some y->∃x u,R x/\u.cells.toList=cs/\(f x).ok (λr=>w.heap[r]?) u)
  (hv:Value.okWide P w r rH t v)(h:DataW.Trod enc P w base spare held t v d ps):∃x:A3 α,(TL f x).ok (λr=>w.heap[r]?) v/\∀y∈x,R y:=by
 obtain⟨fuel,hf⟩:=h;obtain⟨x,u,hx,hu,Aw⟩:=n9 ht hc hk hn elem _ _ _ hf;obtain⟨a0,len,cap,rfl⟩:=okWide_slice ht hv;refine⟨x,?_,hx⟩;obtain⟨o,c,rfl,h1,h2⟩:=Aw;have:[Value.slice o (lT f x).length c]=[Value.slice a0 len cap]:=hu;cases this;exact⟨_,_,rfl,h1,h2⟩
theorem oq{Hh:Type}{enc:Am×AV->Hh}{w:AR}{base:Nat}{spare:Nat->Bool}{held:Bool}{e n3 s:Am}{f0 f1:Field}(he:Tryz.prog.underlying e=some (.struct #[f0,f1]))(h0:f0.type=n3/\f0.offset=0)(h1:f1.type=s/\f1.offset=3)
  (hn:Tryz.prog.underlying n3=some (.array 3 3))(hs:Tryz.prog.underlying s=some .string)(hi:Tryz.prog.underlying 3=some (.int .i64))(c3:Tryz.prog.cellsOf n3=3)(c1:Tryz.prog.cellsOf s=1)(ci:Tryz.prog.cellsOf 3=1)(ce:Tryz.prog.cellsOf e=4)
  (n:Nat)(cs:A3 AV)(y:DataW Hh×A3 MemPlace)(h:DataW.trod enc Tryz.prog w base spare held n e cs=some y):∃x u,(Cb (x:BZ).1.1/\Cb x.1.2.1/\Cb x.1.2.2)/\u.cells.toList=cs/\(Af x).ok (λr=>w.heap[r]?) u:=by
 obtain⟨y0,y1,m,_,hl,t0,t1⟩:=trod_struct2 he h;rw[h0.1,h0.2,c3] at t0;rw[h1.1,h1.2,c1] at t1;rw[ce] at hl
 match cs,hl with
 |[c0,c1',c2,c3'],_=>
  obtain⟨z0,z1,z2,q,_,i0,i1,i2⟩:=trod_array3 hn ci t0;obtain⟨a,ea,_,wa⟩:=DataW.trod_int hi i0;obtain⟨b,eb,_,wb⟩:=DataW.trod_int hi i1;obtain⟨c,ec,_,wc⟩:=DataW.trod_int hi i2;obtain⟨d,ed,_,_⟩:=DataW.trod_string hs t1;cases ea;cases eb;cases ec;have ed:c3'= .string d:=by simpa using ed
  subst ed;obtain⟨l⟩:=d;obtain⟨l⟩:=l;have iw:∀{z:Int},(Lit.int .i64 z).wf=true->Cb z:=λh=>by simp only[Lit.wf,C4,WD] at h;exact h
  refine⟨((a,b,c),l),.agg #[.int .i64 a,.int .i64 b,.int .i64 c,.string ⟨⟨l⟩⟩],⟨iw wa,iw wb,iw wc⟩,rfl,?_⟩;exact⟨_,rfl,.agg #[.int .i64 a,.int .i64 b,.int .i64 c],_,rfl,⟨_,rfl,_,_,rfl,rfl,_,_,rfl,rfl,_,_,rfl,rfl,rfl⟩,.string ⟨⟨l⟩⟩,_,rfl,rfl,rfl⟩
theorem an8{Hh:Type}{enc:Am×AV->Hh}{w:AR}{r:Reach}{base rH:Nat}{spare:Nat->Bool}{held:Bool}{e n3 s:Am}{f0 f1:Field}{v:AV}{d:DataW Hh}{ps:A3 MemPlace}(he:Tryz.prog.underlying e=some (.struct #[f0,f1]))(h0:f0.type=n3/\f0.offset=0)(h1:f1.type=s/\f1.offset=3)
  (hn:Tryz.prog.underlying n3=some (.array 3 3))(hs:Tryz.prog.underlying s=some .string)(hi:Tryz.prog.underlying 3=some (.int .i64))(c3:Tryz.prog.cellsOf n3=3)(c1:Tryz.prog.cellsOf s=1)(ci:Tryz.prog.cellsOf 3=1)(ce:Tryz.prog.cellsOf e=4)
  (hv:Value.okWide Tryz.prog w r rH e v)(h:DataW.Trod enc Tryz.prog w base spare held e v d ps):∃x:BZ,(Af x).ok (λr=>w.heap[r]?) v/\(Cb x.1.1/\Cb x.1.2.1/\Cb x.1.2.2):=by
 obtain⟨fuel,hf⟩:=h;obtain⟨x,u,hx,hu,Aw⟩:=oq he h0 h1 hn hs hi c3 c1 ci ce _ _ _ hf;have ag:∃cs,v= .agg cs:=by unfold Value.okWide at hv;rw[he] at hv;obtain⟨cs,e,_⟩:=hv;exact⟨cs,e⟩
 obtain⟨cs,rfl⟩:=ag;obtain⟨Dv,rfl,h2⟩:=Aw;have:Dv.toList=cs.toList:=hu;have:Dv=cs:=Array.toList_inj.1 this;subst this;exact⟨x,⟨_,rfl,h2⟩,hx⟩
def Walk:Prop:=∀x0 x1 x2 r,Us x0 x1 x2=some r-> @Ef DR.lax Tryz.prog 4 [(TL<|TL Af) x0,(TL<|TL Af) x1,Af x2] (.vs [Av r])
def Law:Prop:=∀x0 x1 x2,(∀b∈x0,∀h∈b,Cb h.1.1/\Cb h.1.2.1/\Cb h.1.2.2)->(∀b∈x1,∀h∈b,Cb h.1.1/\Cb h.1.2.1/\Cb h.1.2.2)->(Cb x2.1.1/\Cb x2.1.2.1/\Cb x2.1.2.2)->Us x0 x1 x2=some true
theorem lifted(hw:Walk)(hl:Law)(os:Os)(started:os.Started)(H:Type)(enc:Am×AV->H):ReturnsInHanded {} Tryz.checked os 4 .any (λw args=>(SP.pre enc Tryz.prog Tryz.f4 [] false w args/\laidMetH Tryz.prog RW.laid w)/\sizedMet enc Tryz.prog Tryz.f4 (OpenSpec.ofChange SP) false w args)
   (SP.post enc Tryz.prog Tryz.f4 false true false false):=by
 refine returnsInHanded_of_calls (C:=Tryz.checked) own started A7
  (ChangeSpec.witness_shaped (enc:=enc) (C:=Tryz.checked) (os:=os) (X:=λw _=>laidMetH Tryz.prog RW.laid w) false (World.doorLaid Tryz.prog 62 os) #[.slice none 0 0,.slice none 0 0,.agg #[.int .i64 0,.int .i64 0,.int .i64 0,.string ⟨#[]⟩]] 8 rfl (World.shaped_of_RefB A7 A7) A7 A7 A7 (alF os _)) ?_
 intro w tape i _ CS _ Aw Ue _;obtain⟨_,_,_,fn',atl,_,_,_,_,KD⟩:=Aw;have e:fn'=Tryz.f4:=E8<|atl.symm.trans Tryz.func4
 subst e;obtain⟨⟨⟨ds,gs,before,hW,_⟩,hx⟩,_⟩:=Ue;have hW':=DataW.Whole.of_heap (w':=w.forCall tape i) (by rfl) hW;have hWk:=hW';obtain⟨p,q,hA0,hV,rfl,hfz,IV⟩:=hW';have hA:DataW.TrodAll enc Tryz.prog (w.forCall tape i) 0 (λ_=>true) true Tryz.f4.params.toList i.args.toList ds p:=hA0;rw[Tryz.params4] at hA KD;obtain⟨v0,v1,v2,d0,d1,d2,p0,p1,p2,ea,rfl,rfl,h0,h1,h2⟩:=trodAll_three hA;obtain⟨rfl,rfl⟩:=trodVars_none hV;rw[ea] at KD hWk⊢;have gl:=anE CS<|hx.of_heap rfl
 obtain⟨x0,hx0,Kt⟩:=y4 (k:=1) (f:=TL Af) (R:=λb=>∀h∈b,Cb h.1.1/\Cb h.1.2.1/\Cb h.1.2.2) Tryz.underlying23 A7 A4 (λ_=>rfl) (n9 (k:=4) (f:=Af) (R:=λh=>Cb h.1.1/\Cb h.1.2.1/\Cb h.1.2.2) Tryz.underlying46 A7 A4 (λ_=>rfl)<|oq (n3:=34) (s:=35) Tryz.underlying37 ⟨rfl,rfl⟩ ⟨rfl,rfl⟩ Tryz.underlying34 Tryz.underlying35 Tryz.underlying3 A7 A7 A7 A7) (KD 0 23 v0 rfl rfl) h0;obtain⟨x1,hx1,hr1⟩:=y4 (k:=1) (f:=TL Af) (R:=λb=>∀h∈b,Cb h.1.1/\Cb h.1.2.1/\Cb h.1.2.2) Tryz.underlying23 A7 A4 (λ_=>rfl) (n9 (k:=4) (f:=Af) (R:=λh=>Cb h.1.1/\Cb h.1.2.1/\Cb h.1.2.2) Tryz.underlying46 A7 A4 (λ_=>rfl)<|oq (n3:=34) (s:=35) Tryz.underlying37 ⟨rfl,rfl⟩ ⟨rfl,rfl⟩ Tryz.underlying34 Tryz.underlying35 Tryz.underlying3 A7 A7 A7 A7) (KD 1 23 v1 rfl rfl) h1;obtain⟨x2,hx2,H7⟩:=an8 (n3:=34) (s:=35) Tryz.underlying37 ⟨rfl,rfl⟩ ⟨rfl,rfl⟩ Tryz.underlying34 Tryz.underlying35 Tryz.underlying3 A7 A7 A7 A7 (KD 2 37 v2 rfl rfl) h2;have hc:=Ef.run (D:=DR.lax) (hw x0 x1 x2 true<|hl x0 x1 x2 Kt hr1 H7) (w.forCall tape i) (λr=>(w.forCall tape i).heap[r]?) [v0,v1,v2] (λ_ _ h=>h) gl ⟨v0,_,rfl,hx0,v1,_,rfl,hx1,v2,_,rfl,hx2,rfl⟩;refine hc.mono λe W' ⟨v,he,hb,_,_,_,hr⟩=>?_
 subst he;have hv:v= .bool true:=hr;subst hv;have hlt:∀z∈p0++p1++p2,z.block<(w.forCall tape i).heap.size:=λz hz=>by simpa using hWk.lt z (by simpa using hz)
 refine ChangeSpec.post_blind (W:=w.forCall tape i) ⟨[d0,d1,d2],[],p0++p1++p2++[],[],p0++p1++p2,[],hWk,?_,?_,rfl,hb.toBelow.frame _,λh=>by cases h⟩
 .exact trodAll_mk1<|shut_bool Tryz.underlying4 true
 .rw[Tryz.params4];rw[HY];exact trodAll_mk3 (Below.trod laidOut A7 (Ar A7) h0 hb.toBelow<|λz hz=>hlt z<|IB _<|IB _ hz) (Below.trod laidOut A7 (Ar A7) h1 hb.toBelow<|λz hz=>hlt z<|IB _<|SB _ hz)<|Below.trod laidOut A7 (Ar A7) h2 hb.toBelow<|λz hz=>hlt z<|SB _ hz
theorem Ft{a b:Bool}(h:a=true)(k:b=true):(a&&b)=true:=by subst h;subst k;rfl
theorem k1:RW.wf (OpenSpec.ofChange SP)=true:=A7
theorem k3:mapsRowed Tryz.prog=true:=A7
theorem k5:namedTie Tryz.prog RW.named SP.vars=true:=A7
theorem KI:(RW.inPlace==Tryz.prog.inPlace 4)=true:=A7
theorem M5:(RW.unfollowed==Tryz.prog.unfollowed 4)=true:=A7
theorem IQ:(RW.recurses==Tryz.prog.recurses 4)=true:=A7
theorem k13:(RW.named==Tryz.prog.varsNamed 4)=true:=A7
theorem k23:(RW.plainKeys==Tryz.prog.plainKeys)=true:=A7
theorem k25:Tryz.prog.stopsHeard=true:=A7
theorem O2:Tryz.prog.mayEnter=true:=A7
theorem k27:(RW.lifted==Tryz.prog.liftsFinal)=true:=A7
theorem Ko:(Tryz.prog.make==some RW.make)=true:=A7
theorem aoQ:joinedFacts Tryz.prog 4 Tryz.f4 SP RW=true:=Ft (Ft (Ft (Ft (Ft (Ft (Ft (Ft (Ft (Ft (Ft (Ft (Ft (Ft (Ft (Ft (Ft (Ft (Ft (Ft (Ft (Ft (Ft (Ft (Ft (Ft (Ft (Ft (Ft (Ft (Ft k1 laidOut) k3) A7) k5) A7) A7) A7) A7) KI) M5) IQ) k13) A7) A7) A7) A7) A7) A7) A7) A7) A7) k23) A7) k25) O2) k27) Ko) A7) A7) A7) A7
theorem abg:Tryz.prog.funcNamed "trunnel/trunnellaw02.SolidCuts" =some 4:=A7
theorem aie(hw:Walk)(hl:Law):Go.Proofs.YtieipfegkfhllaaGreatDoor.Rows.SolidCutsSaid:=
 OpenClaim.holds_of_wide 4 Tryz.f4 rfl rfl rfl rfl rfl rfl rfl ⟨rfl,rfl,rfl,rfl,rfl⟩ rfl rfl rfl rfl rfl abg Tryz.func4 aoQ
  (Ar A7) (by unfold Func.isWrapper;first|(rw[if_pos (by decide+kernel)];kernel_rfl)|(rw[if_neg (by decide+kernel)];exact⟨rfl,rfl⟩))
  (λos started H enc _=>lifted hw hl os started H enc)
theorem ahn(hw:Walk)(hl:Law):Go.Proofs.YtieipfegkfhllaaGreatDoor.Rows.SolidCutsCardSaid:=
 Claim7.holds_tied_plain_at .later [] [.data,.data,.data,.sentinel,.sentinel] true (true,"db1e2735c44ec386801dce33107ec004816e47b739923273be617724547230d8") true
  (aie hw hl) (λ_ h=>by cases h) A7 (λ_ h=>by cases h) Go.Proofs.YtieipfegkfhllaaGreatDoor.solidCuts_row_tie rfl ⟨rfl,rfl⟩ A7 rfl
  (λf fn hf hfn=>by
   obtain rfl:f=4:=E8 (abg.symm.trans hf)|>.symm
   obtain rfl:fn=Tryz.f4:=(E8<|Tryz.func4.symm.trans hfn).symm;exact⟨A7,λj t ht=>by
    rw[Tryz.params4] at ht;have hm:t∈[23,23,37]:=by simpa using Array.mem_of_getElem? ht
    have hall:([23,23,37].all λu=> !Tryz.prog.wantsStandIn u)=true:=A7;exact(show Tryz.prog.wantsStandIn t=false by simpa using Dj.1 hall t hm)⟩)
  anD
end
end acm
end Trn
