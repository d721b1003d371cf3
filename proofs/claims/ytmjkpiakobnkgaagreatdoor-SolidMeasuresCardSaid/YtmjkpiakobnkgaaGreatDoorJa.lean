/- Part of SolidMeasures. -/
import Derived.Test.YtmjkpiakobnkgaaGreatDoorHa
import Derived.Test.YtmjkpiakobnkgaaGreatDoorTie
import Derived.Test.YtmjkpiakobnkgaaGreatDoorCards
import Derived.LaidMore
import Derived.OpenShut
import Derived.ProofKit
import Derived.Stop.LaidErr
set_option maxRecDepth 100000
set_option maxHeartbeats 20000000
set_option linter.all false
open Go Go.RowKit Go.Proofs Go.Proofs.Tryz
namespace Trn
namespace adK
section
open Go.ChangeShapes Go.WideShapes
noncomputable abbrev RW:=Go.Proofs.YtmjkpiakobnkgaaGreatDoor.Rows.solidMeasuresRow
noncomputable abbrev SP:=Go.Proofs.YtmjkpiakobnkgaaGreatDoor.Rows.solidMeasuresSpec
theorem own:ownKnob Tryz.prog.godebug=none:=A6
theorem laidOut:laidOutB Tryz.prog=true:=A6
theorem alp(os:Os)(args:BG AV):laidMetH Tryz.prog RW.laid ((World.doorLaid Tryz.prog 62 os).forCall (λ_ _=>0) ⟨#[],args,[]⟩).memory:=laidMetH_of_parts3 (fuel:=8) (laidMet_of_run' 8 A6 A6) A6 A6
theorem ao5(P:CP)(c:OpenClaim)(h:P.funcs.any Func.goes=false)(hs:c.start= .entering):false=c.goesBy P:=by
 have key:∀f,P.goes f=false:=by
  intro f;unfold Program.goes;rw[h,ZW,iF];rw[Zg];intro g hg;cases hf:P.funcs[g]? with
  |none=>simp
  |some fn=>obtain⟨hlt,rfl⟩:=Sh.1 hf;have:=Array.any_eq_false.1 h g hlt;simpa using this
 have h2:∀s,P.goesFrom s=false:=λs=>by unfold Program.goesFrom;cases P.funcNamed s with|none=>rfl|some f=>exact key f
 unfold OpenClaim.goesBy Program.goesAt;rw[h2,hs];rfl
theorem ao7:false=RW.goesBy Tryz.prog:=ao5 _ _ A6 rfl
def jP:A9 TypeDesc->Bool
 |some (.int _)=>false|some (.array 20 _)=>false|_=>true
theorem W8{P:CP}{T:Ap}{o:A9 Obj}(h:jP (P.underlying T)=true):Sp P T o:=by
 unfold Sp;split
 .rename_i hu;rw[hu] at h;cases h
 .rename_i hu;rw[hu] at h;cases h
 .trivial
theorem ao8{w:AR}(CW:w.ShapedOpen Tryz.prog)(hL:laidMetH Tryz.prog RW.laid w.memory):LY Tryz.prog (λr=>w.heap[r]?):=by
 rw[MakeChecks.laidMetH_plain _ _ _ A6] at hL;have hT:=Lib.tabIs_of_head (name:= "internal/strconv.uint64pow10") (k:= .u64) (zs:=Lib.pow10Tab) (g:=5) (t:=396) (e:=272) (n:=20) A6 A6 A6 A6 A6 A6 hL.tail.tail;have hint:∃m E fr,w.heap[0]? =some (.cells #[.int .i64 m] E fr):=by
  obtain⟨cs,h1,h2,h3⟩:=CW.1 0 #[.int .i64 0] 3 (As A6) A6;obtain⟨ts,hts,_,hall⟩:=h3 A6;have e:Tryz.prog.cellTypes Tryz.prog.depth 3=some [3]:=A6;rw[e] at hts;cases hts;obtain⟨l⟩:=cs
  match l,h2 with
  |[c],_=>
   obtain⟨u,hu,Az⟩:=hall 0 c rfl;have hu:u=3:=by simpa using hu.symm
   subst hu;have ht:Tryz.prog.underlying 3=some (.int .i64):=A6;unfold Cell.ok at Az;rw[ht] at Az;cases c with
   |int k m=>obtain⟨rfl,_⟩:=Az;exact⟨m,_,_,h1⟩
   |_=>simp at Az
 have htab:∃E fr,w.heap[5]? =some (.cells eh E fr):=by
  unfold Lib.TabIs World.var? at hT;rw[show Tryz.prog.globalNamed "internal/strconv.uint64pow10" =some 5 by kernel_rfl] at hT;have hT:(match w.heap[5]? with|some (Obj.cells cs _ _)=>some cs|_=>none)=some ((Lib.pow10Tab.map λz=>Value.int .u64 z).toArray):=hT;split at hT
  .rename_i cs E fr h;have e:eh=(Lib.pow10Tab.map λz=>Value.int .u64 z).toArray:=A6;rw[e,<-Ez hT];exact⟨E,fr,h⟩
  .cases hT
 intro g T hg;have types:Tryz.prog.globals.toList.map (·.type)=[3,303,303,303,303,396,405,406]:=A6;have hg':(Tryz.prog.globals.toList.map (·.type))[g]? =some T:=by rw[HL,Ps];exact hg
 rw[types] at hg';have u3:Tryz.prog.underlying 3=some (.int .i64):=A6;have kE:jP (Tryz.prog.underlying 303)=true:=A6;have asI:jP (Tryz.prog.underlying 405)=true:=A6;have asH:jP (Tryz.prog.underlying 406)=true:=A6;have asJ:Tryz.prog.underlying 396=some (.array 20 272):=A6
 match g,hg' with|0,e=>cases e;unfold Sp;rw[u3];exact hint|1,e=>cases e;exact W8 kE|2,e=>cases e;exact W8 kE|3,e=>cases e;exact W8 kE|4,e=>cases e;exact W8 kE|5,e=>cases e;unfold Sp;rw[asJ];exact htab|6,e=>cases e;exact W8 asI|7,e=>cases e;exact W8 asH|g+8,e=>simp at e
theorem xE{Hh:Type}{enc:Ap×AV->Hh}{P:CP}{w:AR}{base:Nat}{spare:Nat->Bool}{held:Bool}{α:Type}{f:α->Ty}{R:α->Prop}{t e:Ap}{k:Nat}
  (ht:P.underlying t=some (.slice e))(hc:P.cellsOf e=k)(hk:0<k)(hn:∀x,(f x).n=k)
  (elem:∀n cs y,DataW.trod enc P w base spare held n e cs=some y->∃x u,R x/\u.cells.toList=cs/\(f x).ok (λr=>w.heap[r]?) u)
  (n0:Nat)(cs0:A3 AV)(y0:DataW Hh×A3 MemPlace)(hf:DataW.trod enc P w base spare held n0 t cs0=some y0):∃(x:A3 α) (u:AV),(∀y∈x,R y)/\u.cells.toList=cs0/\(TL f x).ok (λr=>w.heap[r]?) u:=by
 rcases DataW.trod_slice ht hf with⟨e0,_⟩|⟨a,len,cap,elems,rest,n,_,e0,_,_,hl,_,hlen,hel,_,_⟩
 .exact⟨[],.slice none 0 0,λy my=>(by cases my),e0.symm,zTL⟩
 .have hw:0<len->a.spot=none/\∃cs E fr,w.heap[a.block]? =some (.cells cs E fr):=λh0=>by
   have hy:=hel 0 h0;obtain⟨y,hy'⟩:∃y,elems[0]? =some y:=⟨_,Gs A4⟩;rw[hy',Option.bind_eq_some_iff] at hy;obtain⟨ci,hci,_⟩:=hy;rw[hc] at hci;obtain⟨_,c1,c2⟩:=World.cells?_some hci;have c0:=c2 0 hk;rw[Gs (show 0<ci.length by omega)] at c0;have e1:(a.add<|0*k).add 0=a:=by simp[Addr.add]
   rw[e1] at c0;unfold World.cell? at c0;split at c0
   .rename_i c E fr hq;refine⟨?_,c,E,fr,hq⟩;cases hs:a.spot with|none=>rfl|some z=>rw[hs] at c0;cases c0
   .cases c0
  have ok0:len=0\/0<len:=A4;rcases ok0 with rfl|h0
  .exact⟨[],.slice (some a) 0 cap,λy my=>(by cases my),e0.symm,⟨some a,cap,rfl,hl,λhne=>absurd rfl hne⟩⟩
  obtain⟨hs,cs,E,fr,hq⟩:=hw h0;have cell:∀j,w.cell? (a.add j)=cs[a.off+j]? :=λj=>by
   unfold World.cell? Addr.add;by_cases h0:j=0
   .subst h0;simp[hq,hs]
   .simp[h0,hq]
  have main:∀m,m<=len->∃l:A3 α,l.length=m/\Db (λr=>w.heap[r]?) (lT f l) ((cs.toList.drop a.off).take<|m*k)/\(∀y∈l,R y)/\(0<m->a.off+m*k<=cs.size):=by
   intro m
   induction m with
   |zero=>intro _;exact⟨[],rfl,by simp[lT,Db],AT,A4⟩
   |succ m ih=>
    intro hm;obtain⟨l,l1,l2,l3,l4⟩:=ih A4;have hy:=hel m A4;obtain⟨y,hy'⟩:∃y,elems[m]? =some y:=⟨_,Gs A4⟩;rw[hy',Option.bind_eq_some_iff] at hy;obtain⟨ci,hci,htr⟩:=hy;rw[hc] at hci;obtain⟨_,c1,c2⟩:=World.cells?_some hci;obtain⟨x,u,hx,hu,Az⟩:=elem _ _ _ htr;have at_:∀j,j<k->cs[a.off+m*k+j]? =ci[j]? :=λj hj=>by
     rw[<-c2 j hj];have:(a.add<|m*k).add j=a.add (m*k+j):=by
      unfold Addr.add;by_cases h0:j=0
      .subst h0;simp
      .by_cases h1:m*k=0
       .simp[h0,h1]
       .have h2:m*k+j≠0:=A4;simp[h0,h1,h2,LM]
     rw[this,cell];congr 1;omega
    have le:a.off+(m+1)*k<=cs.size:=by have:=at_ (k-1) A4;rw[Gs (show k-1<ci.length by omega)] at this;obtain⟨hlt,_⟩:=Sh.1 this;rw[SY];omega
    have take:(cs.toList.drop<|a.off+m*k).take k=ci:=by
     apply WT;intro j;by_cases hj:j<k
     .rw[List.getElem?_take_of_lt hj,UK,Ps,at_ j hj]
     .rw[List.getElem?_eq_none (by rw[EK];omega),List.getElem?_eq_none A4]
    refine⟨l++[x],by simp[l1],?_,λy my=>?_,λ_=>?_⟩
    .rw[SY,List.take_add,Fe,take];show Db _ ((l++[x]).map f) _;rw[Ic];exact S4 l2 ⟨u,[],by rw[hu];simp,Az,rfl⟩
    .rcases CJ.1 my with my|my
     .exact l3 y my
     .rw[Cv.1 my];exact hx
    .exact le
  obtain⟨l,l1,l2,l3,l4⟩:=main len<|BQ _
  have ll:(lT f l).length=len:=by rw[C2,l1]
  have cn:∀l:A3 α,CS (lT f l)=l.length*k:=λl=>by induction l with|nil=>simp|cons x l ih=>show CS (f x::lT f l)=_;rw[nT,ih,hn,E2,SY,Pc]
  refine⟨l,.slice (some a) len cap,l3,e0.symm,some a,cap,by rw[ll],by rw[ll];exact hl,λhne=>⟨a.block,a.off,cs,E,fr,?_,hq,?_,?_⟩⟩
  .obtain⟨b,o,sp⟩:=a;dsimp only at hs;rw[hs]
  .rw[cn,l1];refine l4<|Nat.pos_of_ne_zero λh0=>hne ?_
   rw[h0] at ll;exact LU ll
  .rw[cn,l1];exact l2
theorem akF{Hh:Type}{enc:Ap×AV->Hh}{P:CP}{w:AR}{r:Reach}{base as6:Nat}{spare:Nat->Bool}{held:Bool}{α:Type}{f:α->Ty}{R:α->Prop}{t e:Ap}{k:Nat}{v:AV}{d:DataW Hh}{ps:A3 MemPlace}
  (ht:P.underlying t=some (.slice e))(hc:P.cellsOf e=k)(hk:0<k)(hn:∀x,(f x).n=k)
  (elem:∀n cs y,DataW.trod enc P w base spare held n e cs=some y->∃x u,R x/\u.cells.toList=cs/\(f x).ok (λr=>w.heap[r]?) u)
  (hv:Value.okWide P w r as6 t v)(h:DataW.Trod enc P w base spare held t v d ps):∃x:A3 α,(TL f x).ok (λr=>w.heap[r]?) v/\∀y∈x,R y:=by
 obtain⟨fuel,hf⟩:=h;obtain⟨x,u,hx,hu,Az⟩:=xE ht hc hk hn elem _ _ _ hf;obtain⟨a0,len,cap,rfl⟩:=okWide_slice ht hv;refine⟨x,?_,hx⟩;obtain⟨o,c,rfl,h1,h2⟩:=Az;have:[Value.slice o (lT f x).length c]=[Value.slice a0 len cap]:=hu;cases this;exact⟨_,_,rfl,h1,h2⟩
theorem alz{Hh:Type}{enc:Ap×AV->Hh}{w:AR}{base:Nat}{spare:Nat->Bool}{held:Bool}{e n3 s:Ap}{f0 f1:Field}(he:Tryz.prog.underlying e=some (.struct #[f0,f1]))(h0:f0.type=n3/\f0.offset=0)(h1:f1.type=s/\f1.offset=3)
  (hn:Tryz.prog.underlying n3=some (.array 3 3))(hs:Tryz.prog.underlying s=some .string)(hi:Tryz.prog.underlying 3=some (.int .i64))(c3:Tryz.prog.cellsOf n3=3)(c1:Tryz.prog.cellsOf s=1)(ci:Tryz.prog.cellsOf 3=1)(ce:Tryz.prog.cellsOf e=4)
  (n:Nat)(cs:A3 AV)(y:DataW Hh×A3 MemPlace)(h:DataW.trod enc Tryz.prog w base spare held n e cs=some y):∃x u,(DW (x:C1).1.1/\DW x.1.2.1/\DW x.1.2.2)/\u.cells.toList=cs/\(Ar x).ok (λr=>w.heap[r]?) u:=by
 obtain⟨y0,y1,m,_,hl,t0,t1⟩:=trod_struct2 he h;rw[h0.1,h0.2,c3] at t0;rw[h1.1,h1.2,c1] at t1;rw[ce] at hl
 match cs,hl with
 |[c0,c1',c2,c3'],_=>
  obtain⟨z0,z1,z2,q,_,i0,i1,i2⟩:=trod_array3 hn ci t0;obtain⟨a,ea,_,wa⟩:=DataW.trod_int hi i0;obtain⟨b,eb,_,wb⟩:=DataW.trod_int hi i1;obtain⟨c,ec,_,wc⟩:=DataW.trod_int hi i2;obtain⟨d,ed,_,_⟩:=DataW.trod_string hs t1;cases ea;cases eb;cases ec;have ed:c3'= .string d:=by simpa using ed
  subst ed;obtain⟨l⟩:=d;obtain⟨l⟩:=l;have iw:∀{z:Int},(Lit.int .i64 z).wf=true->DW z:=λh=>by simp only[Lit.wf,C9,WU] at h;exact h
  refine⟨((a,b,c),l),.agg #[.int .i64 a,.int .i64 b,.int .i64 c,.string ⟨⟨l⟩⟩],⟨iw wa,iw wb,iw wc⟩,rfl,?_⟩;exact⟨_,rfl,.agg #[.int .i64 a,.int .i64 b,.int .i64 c],_,rfl,⟨_,rfl,_,_,rfl,rfl,_,_,rfl,rfl,_,_,rfl,rfl,rfl⟩,.string ⟨⟨l⟩⟩,_,rfl,rfl,rfl⟩
def Walk:Prop:=∀x0 r,V7 x0=some r-> @Eg DR.lax Tryz.prog 3 [(TL<|TL Ar) x0] (.vs [Ay r])
def Law:Prop:=∀x0,(∀b∈x0,∀h∈b,DW h.1.1/\DW h.1.2.1/\DW h.1.2.2)->V7 x0=some true
theorem lifted(hw:Walk)(hl:Law)(os:Os)(started:os.Started)(H:Type)(enc:Ap×AV->H):ReturnsInHanded {} Tryz.checked os 3 .any (λw args=>(SP.pre enc Tryz.prog Tryz.f3 [] false w args/\laidMetH Tryz.prog RW.laid w)/\sizedMet enc Tryz.prog Tryz.f3 (OpenSpec.ofChange SP) false w args)
   (SP.post enc Tryz.prog Tryz.f3 false true false false):=by
 refine returnsInHanded_of_calls (C:=Tryz.checked) own started A6
  (ChangeSpec.witness_shaped (enc:=enc) (C:=Tryz.checked) (os:=os) (X:=λw _=>laidMetH Tryz.prog RW.laid w) false (World.doorLaid Tryz.prog 62 os) #[.slice none 0 0] 8 rfl (World.shaped_of_RefB A6 A6) A6 A6 A6 (alp os _)) ?_
 intro w tape i _ CW _ Az Uu _;obtain⟨_,_,_,fn',au6,_,_,_,_,Kq⟩:=Az;have e:fn'=Tryz.f3:=Ez<|au6.symm.trans Tryz.func3
 subst e;obtain⟨⟨⟨ds,gs,before,hW,_⟩,hx⟩,_⟩:=Uu;have hW':=DataW.Whole.of_heap (w':=w.forCall tape i) (by rfl) hW;have hWk:=hW';obtain⟨p,q,hA0,hV,rfl,hfz,IV⟩:=hW';have hA:DataW.TrodAll enc Tryz.prog (w.forCall tape i) 0 (λ_=>true) true Tryz.f3.params.toList i.args.toList ds p:=hA0;rw[Tryz.params3] at hA Kq;obtain⟨v0,d0,ea,rfl,h0⟩:=trodAll_one hA;obtain⟨rfl,rfl⟩:=trodVars_none hV;rw[ea] at Kq hWk⊢;have gl:=ao8 CW<|hx.of_heap rfl
 obtain⟨x0,hx0,Kz⟩:=akF (k:=1) (f:=TL Ar) (R:=λb=>∀h∈b,DW h.1.1/\DW h.1.2.1/\DW h.1.2.2) Tryz.underlying23 A6 A4 (λ_=>rfl) (xE (k:=4) (f:=Ar) (R:=λh=>DW h.1.1/\DW h.1.2.1/\DW h.1.2.2) Tryz.underlying59 A6 A4 (λ_=>rfl)<|alz (n3:=40) (s:=26) Tryz.underlying42 ⟨rfl,rfl⟩ ⟨rfl,rfl⟩ Tryz.underlying40 Tryz.underlying26 Tryz.underlying3 A6 A6 A6 A6) (Kq 0 23 v0 rfl rfl) h0;have hc:=Eg.run (D:=DR.lax) (hw x0 true<|hl x0 Kz) (w.forCall tape i) (λr=>(w.forCall tape i).heap[r]?) [v0] (λ_ _ h=>h) gl ⟨v0,_,rfl,hx0,rfl⟩;refine hc.mono λe W' ⟨v,he,hb,_,_,_,hr⟩=>?_
 subst he;have hv:v= .bool true:=hr;subst hv;have hlt:∀z∈p,z.block<(w.forCall tape i).heap.size:=λz hz=>by simpa using hWk.lt z (by simpa using hz)
 refine ChangeSpec.post_blind (W:=w.forCall tape i) ⟨[d0],[],p++[],[],p,[],hWk,?_,?_,rfl,hb.toBelow.frame _,λh=>by cases h⟩
 .exact trodAll_mk1<|shut_bool Tryz.underlying4 true
 .rw[Tryz.params3]
  skip
  exact trodAll_mk1<|Below.trod laidOut A6 (As A6) h0 hb.toBelow<|λz hz=>hlt z<|hz
theorem GA{a b:Bool}(h:a=true)(k:b=true):(a&&b)=true:=by subst h;subst k;rfl
theorem k1:RW.wf (OpenSpec.ofChange SP)=true:=A6
theorem k3:mapsRowed Tryz.prog=true:=A6
theorem k5:namedTie Tryz.prog RW.named SP.vars=true:=A6
theorem KL:(RW.inPlace==Tryz.prog.inPlace 3)=true:=A6
theorem MC:(RW.unfollowed==Tryz.prog.unfollowed 3)=true:=A6
theorem JL:(RW.recurses==Tryz.prog.recurses 3)=true:=A6
theorem k13:(RW.named==Tryz.prog.varsNamed 3)=true:=A6
theorem k23:(RW.plainKeys==Tryz.prog.plainKeys)=true:=A6
theorem k25:Tryz.prog.stopsHeard=true:=A6
theorem k26:Tryz.prog.mayEnter=true:=A6
theorem k27:(RW.lifted==Tryz.prog.liftsFinal)=true:=A6
theorem Kt:(Tryz.prog.make==some RW.make)=true:=A6
theorem apH:joinedFacts Tryz.prog 3 Tryz.f3 SP RW=true:=GA (GA (GA (GA (GA (GA (GA (GA (GA (GA (GA (GA (GA (GA (GA (GA (GA (GA (GA (GA (GA (GA (GA (GA (GA (GA (GA (GA (GA (GA (GA k1 laidOut) k3) A6) k5) A6) A6) A6) A6) KL) MC) JL) k13) A6) A6) A6) A6) A6) A6) A6) A6) A6) k23) A6) k25) k26) k27) Kt) A6) A6) A6) A6
theorem acM:Tryz.prog.funcNamed "trunnel/trunnellaw02.SolidMeasures" =some 3:=A6
theorem ajA(hw:Walk)(hl:Law):Go.Proofs.YtmjkpiakobnkgaaGreatDoor.Rows.SolidMeasuresSaid:=
 OpenClaim.holds_of_wide 3 Tryz.f3 rfl rfl rfl rfl rfl rfl rfl ⟨rfl,rfl,rfl,rfl,rfl⟩ rfl rfl rfl rfl rfl acM Tryz.func3 apH
  (As A6) (by unfold Func.isWrapper;first|(rw[if_pos (by decide+kernel)];kernel_rfl)|(rw[if_neg (by decide+kernel)];exact⟨rfl,rfl⟩))
  (λos started H enc _=>lifted hw hl os started H enc)
theorem aiO(hw:Walk)(hl:Law):Go.Proofs.YtmjkpiakobnkgaaGreatDoor.Rows.SolidMeasuresCardSaid:=
 Claim7.holds_tied_plain_at .later [] [.data,.data,.data,.sentinel,.sentinel] true (true,"95c4940e31584a041e05105d3722094a9c06c80b5e1c884fb12e62def86147ad") true
  (ajA hw hl) (λ_ h=>by cases h) A6 (λ_ h=>by cases h) Go.Proofs.YtmjkpiakobnkgaaGreatDoor.solidMeasures_row_tie rfl ⟨rfl,rfl⟩ A6 rfl
  (λf fn hf hfn=>by
   obtain rfl:f=3:=Ez (acM.symm.trans hf)|>.symm
   obtain rfl:fn=Tryz.f3:=(Ez<|Tryz.func3.symm.trans hfn).symm;exact⟨A6,λj t ht=>by
    rw[Tryz.params3] at ht;have hm:t∈[23]:=by simpa using Array.mem_of_getElem? ht
    have hall:([23].all λu=> !Tryz.prog.wantsStandIn u)=true:=A6;exact(show Tryz.prog.wantsStandIn t=false by simpa using Dr.1 hall t hm)⟩)
  ao7
end
end adK
end Trn
