/-
  Part of the proof of SolidForms.
-/
import Derived.Test.YtflhfjdapojoiaaGreatDoorHb
import Derived.Test.YtflhfjdapojoiaaGreatDoorTie
import Derived.Test.YtflhfjdapojoiaaGreatDoorCards
import Derived.LaidMore
import Derived.OpenShut
import Derived.ProofKit
import Derived.Stop.LaidErr
set_option maxRecDepth 100000
set_option maxHeartbeats 20000000
set_option linter.all false
open Go Go.RowKit Go.Proofs Go.Proofs.Tryz
namespace Trn
namespace ab9
section
open Go.ChangeShapes Go.WideShapes
noncomputable abbrev RW:=Go.Proofs.YtflhfjdapojoiaaGreatDoor.Rows.solidFormsRow
noncomputable abbrev SP:=Go.Proofs.YtflhfjdapojoiaaGreatDoor.Rows.solidFormsSpec
theorem own:ownKnob Tryz.prog.godebug=none:=A4
theorem laidOut:laidOutB Tryz.prog=true:=A4
theorem ajO(os:Os)(args:Aw AO):laidMetH Tryz.prog RW.laid ((World.doorLaid Tryz.prog 62 os).forCall (λ_ _=>0) ⟨#[],args,[]⟩).memory:=
 laidMetH_of_parts3 (fuel:=8) (laidMet_of_run' 8 A4 A4) A4 A4
theorem alQ(P:Bs)(c:OpenClaim)(h:P.funcs.any Func.goes=false)(hs:c.start= .entering):false=c.goesBy P:=by
 have key:∀f,P.goes f=false:=by
  intro f;unfold Program.goes;rw[h,Ya,fL];rw[VY];intro g hg;cases hf:P.funcs[g]? with
  |none=>simp
  |some fn=>
   obtain⟨hlt,rfl⟩:=PI.1 hf;have:=Array.any_eq_false.1 h g hlt;simpa using this
 have h2:∀s,P.goesFrom s=false:=λs=>by
  unfold Program.goesFrom;cases P.funcNamed s with
  |none=>rfl
  |some f=>exact key f
 unfold OpenClaim.goesBy Program.goesAt;rw[h2,hs];rfl
theorem alR:false=RW.goesBy Tryz.prog:=alQ _ _ A4 rfl
def gX:A6 TypeDesc->Bool
 |some (.int _)=>false
 |some (.array 20 _)=>false
 |_=>true
theorem VA{P:Bs}{T:Af}{o:A6 Obj}(h:gX (P.underlying T)=true):S2 P T o:=by
 unfold S2;split
 ·rename_i hu;rw[hu] at h;cases h
 ·rename_i hu;rw[hu] at h;cases h
 ·trivial
theorem alS{w:AK}(By:w.ShapedOpen Tryz.prog)(hL:laidMetH Tryz.prog RW.laid w.memory):Kp Tryz.prog (λr=>w.heap[r]?):=by
 rw[MakeChecks.laidMetH_plain _ _ _ A4] at hL;have hT:=Lib.tabIs_of_head (name:= "internal/strconv.uint64pow10") (k:= .u64) (zs:=Lib.pow10Tab) (g:=5) (t:=371) (e:=255) (n:=20) A4 A4 A4 A4 A4 A4 hL.tail.tail;have hint:∃m E fr,w.heap[0]? =some (.cells #[.int .i64 m] E fr):=by
  obtain⟨cs,h1,h2,h3⟩:=By.1 0 #[.int .i64 0] 3 (AZ A4) A4;obtain⟨ts,hts,_,hall⟩:=h3 A4;have e:Tryz.prog.cellTypes Tryz.prog.depth 3=some [3]:=A4;rw[e] at hts;cases hts;obtain⟨l⟩:=cs
  match l,h2 with
  |[c],_=>
   obtain⟨u,hu,Al⟩:=hall 0 c rfl;have hu:u=3:=by simpa using hu.symm
   subst hu;have ht:Tryz.prog.underlying 3=some (.int .i64):=A4;unfold Cell.ok at Al;rw[ht] at Al;cases c with
   |int k m=>
    obtain⟨rfl,_⟩:=Al;exact⟨m,_,_,h1⟩
   |_=>simp at Al
 have htab:∃E fr,w.heap[5]? =some (.cells c7 E fr):=by
  unfold Lib.TabIs World.var? at hT;rw[show Tryz.prog.globalNamed "internal/strconv.uint64pow10" =some 5 by kernel_rfl] at hT;have hT:(match w.heap[5]? with|some (Obj.cells cs _ _)=>some cs|_=>none)=some ((Lib.pow10Tab.map λz=>Value.int .u64 z).toArray):=hT;split at hT
  ·rename_i cs E fr h;have e:c7=(Lib.pow10Tab.map λz=>Value.int .u64 z).toArray:=A4;rw[e,<-Dg hT];exact⟨E,fr,h⟩
  ·cases hT
 intro g T hg;have types:Tryz.prog.globals.toList.map (·.type)=[3,260,260,260,260,371,379,380]:=A4;have hg':(Tryz.prog.globals.toList.map (·.type))[g]? =some T:=by
  rw[GX,MY];exact hg
 rw[types] at hg';have u3:Tryz.prog.underlying 3=some (.int .i64):=A4;have iW:gX (Tryz.prog.underlying 260)=true:=A4;have apu:gX (Tryz.prog.underlying 379)=true:=A4;have apt:gX (Tryz.prog.underlying 380)=true:=A4;have apv:Tryz.prog.underlying 371=some (.array 20 255):=A4
 match g,hg' with
 |0,e=>cases e;unfold S2;rw[u3];exact hint
 |1,e=>cases e;exact VA iW
 |2,e=>cases e;exact VA iW
 |3,e=>cases e;exact VA iW
 |4,e=>cases e;exact VA iW
 |5,e=>cases e;unfold S2;rw[apv];exact htab
 |6,e=>cases e;exact VA apu
 |7,e=>cases e;exact VA apt
 |g+8,e=>simp at e
theorem uM{Hh:Type}{enc:Af×AO->Hh}{P:Bs}{w:AK}{base:Nat}{spare:Nat->Bool}{held:Bool}{α:Type}{f:α->Ty}{R:α->Prop}{t e:Af}{k:Nat}
  (ht:P.underlying t=some (.slice e))(hc:P.cellsOf e=k)(hk:0<k)(hn:∀x,(f x).n=k)
  (elem:∀n cs y,DataW.trod enc P w base spare held n e cs=some y->∃x u,R x/\u.cells.toList=cs/\(f x).ok (λr=>w.heap[r]?) u)
  (n0:Nat)(cs0:A3 AO)(y0:DataW Hh×A3 MemPlace)(hf:DataW.trod enc P w base spare held n0 t cs0=some y0):∃(x:A3 α) (u:AO),(∀y∈x,R y)/\u.cells.toList=cs0/\(TL f x).ok (λr=>w.heap[r]?) u:=by
 rcases DataW.trod_slice ht hf with⟨e0,_⟩|⟨a,len,cap,elems,rest,n,_,e0,_,_,hl,_,hlen,hel,_,_⟩
 ·exact⟨[],.slice none 0 0,λy my=>(by cases my),e0.symm,zTL⟩
 ·have hw:0<len->a.spot=none/\∃cs E fr,w.heap[a.block]? =some (.cells cs E fr):=λh0=>by
   have hy:=hel 0 h0;obtain⟨y,hy'⟩:∃y,elems[0]? =some y:=⟨_,Fe (by omega)⟩;rw[hy',Option.bind_eq_some_iff] at hy;obtain⟨ci,hci,_⟩:=hy;rw[hc] at hci;obtain⟨_,c1,c2⟩:=World.cells?_some hci;have c0:=c2 0 hk;rw[Fe (show 0<ci.length by omega)] at c0;have e1:(a.add<|0*k).add 0=a:=by simp[Addr.add]
   rw[e1] at c0;unfold World.cell? at c0;split at c0
   ·rename_i c E fr hq;refine⟨?_,c,E,fr,hq⟩;cases hs:a.spot with
    |none=>rfl
    |some z=>rw[hs] at c0;cases c0
   ·cases c0
  have ok0:len=0\/0<len:=by omega
  rcases ok0 with rfl|h0
  ·exact⟨[],.slice (some a) 0 cap,λy my=>(by cases my),e0.symm,⟨some a,cap,rfl,hl,λhne=>absurd rfl hne⟩⟩
  obtain⟨hs,cs,E,fr,hq⟩:=hw h0;have cell:∀j,w.cell? (a.add j)=cs[a.off+j]? :=λj=>by
   unfold World.cell? Addr.add;by_cases h0:j=0
   ·subst h0;simp[hq,hs]
   ·simp[h0,hq]
  have main:∀m,m<=len->∃l:A3 α,l.length=m/\D4 (λr=>w.heap[r]?) (lT f l) ((cs.toList.drop a.off).take<|m*k)/\(∀y∈l,R y)/\(0<m->a.off+m*k<=cs.size):=by
   intro m
   induction m with
   |zero=>intro _;exact⟨[],rfl,by simp[lT,D4],by simp,by omega⟩
   |succ m ih=>
    intro hm;obtain⟨l,l1,l2,l3,l4⟩:=ih (by omega);have hy:=hel m (by omega);obtain⟨y,hy'⟩:∃y,elems[m]? =some y:=⟨_,Fe (by omega)⟩;rw[hy',Option.bind_eq_some_iff] at hy;obtain⟨ci,hci,htr⟩:=hy;rw[hc] at hci;obtain⟨_,c1,c2⟩:=World.cells?_some hci;obtain⟨x,u,hx,hu,Al⟩:=elem _ _ _ htr;have at_:∀j,j<k->cs[a.off+m*k+j]? =ci[j]? :=λj hj=>by
     rw[<-c2 j hj];have:(a.add<|m*k).add j=a.add (m*k+j):=by
      unfold Addr.add;by_cases h0:j=0
      ·subst h0;simp
      ·by_cases h1:m*k=0
       ·simp[h0,h1]
       ·have h2:m*k+j≠0:=by omega
        simp[h0,h1,h2,KY]
     rw[this,cell];congr 1;omega
    have le:a.off+(m+1)*k<=cs.size:=by
     have:=at_ (k-1) (by omega);rw[Fe (show k-1<ci.length by omega)] at this;obtain⟨hlt,_⟩:=PI.1 this;rw[Rc];omega
    have take:(cs.toList.drop<|a.off+m*k).take k=ci:=by
     apply VW;intro j;by_cases hj:j<k
     ·rw[List.getElem?_take_of_lt hj,P8,MY,at_ j hj]
     ·rw[Vd (by rw[DI];omega),Vd (by omega)]
    refine⟨l++[x],by simp[l1],?_,λy my=>?_,λ_=>?_⟩
    ·rw[Rc,List.take_add,F4,take];show D4 _ ((l++[x]).map f) _;rw[LJ];exact R5 l2 ⟨u,[],by rw[hu];simp,Al,rfl⟩
    ·rcases BR.1 my with my|my
     ·exact l3 y my
     ·rw[Be.1 my];exact hx
    ·exact le
  obtain⟨l,l1,l2,l3,l4⟩:=main len<|Az _
  have ll:(lT f l).length=len:=by rw[Bw,l1]
  have cn:∀l:A3 α,Bx (lT f l)=l.length*k:=λl=>by
   induction l with
   |nil=>simp
   |cons x l ih=>show Bx (f x::lT f l)=_;rw[l5,ih,hn,DF,Rc,P2]
  refine⟨l,.slice (some a) len cap,l3,e0.symm,some a,cap,by rw[ll],by rw[ll];exact hl,λhne=>⟨a.block,a.off,cs,E,fr,?_,hq,?_,?_⟩⟩
  ·obtain⟨b,o,sp⟩:=a;dsimp only at hs;rw[hs]
  ·rw[cn,l1];refine l4<|Nat.pos_of_ne_zero λh0=>hne ?_
   rw[h0] at ll;exact JS ll
  ·rw[cn,l1];exact l2
theorem aiE{Hh:Type}{enc:Af×AO->Hh}{P:Bs}{w:AK}{r:Reach}{base apf:Nat}{spare:Nat->Bool}{held:Bool}{α:Type}{f:α->Ty}{R:α->Prop}{t e:Af}{k:Nat}{v:AO}{d:DataW Hh}{ps:A3 MemPlace}
  (ht:P.underlying t=some (.slice e))(hc:P.cellsOf e=k)(hk:0<k)(hn:∀x,(f x).n=k)
  (elem:∀n cs y,DataW.trod enc P w base spare held n e cs=some y->∃x u,R x/\u.cells.toList=cs/\(f x).ok (λr=>w.heap[r]?) u)
  (hv:Value.okWide P w r apf t v)(h:DataW.Trod enc P w base spare held t v d ps):∃x:A3 α,(TL f x).ok (λr=>w.heap[r]?) v/\∀y∈x,R y:=by
 obtain⟨fuel,hf⟩:=h;obtain⟨x,u,hx,hu,Al⟩:=uM ht hc hk hn elem _ _ _ hf;obtain⟨a0,len,cap,rfl⟩:=okWide_slice ht hv;refine⟨x,?_,hx⟩;obtain⟨o,c,rfl,h1,h2⟩:=Al;have:[Value.slice o (lT f x).length c]=[Value.slice a0 len cap]:=hu;cases this;exact⟨_,_,rfl,h1,h2⟩
theorem aje{Hh:Type}{enc:Af×AO->Hh}{w:AK}{base:Nat}{spare:Nat->Bool}{held:Bool}{e n3 s:Af}{f0 f1:Field}(he:Tryz.prog.underlying e=some (.struct #[f0,f1]))(h0:f0.type=n3/\f0.offset=0)(h1:f1.type=s/\f1.offset=3)
  (hn:Tryz.prog.underlying n3=some (.array 3 3))(hs:Tryz.prog.underlying s=some .string)(hi:Tryz.prog.underlying 3=some (.int .i64))(c3:Tryz.prog.cellsOf n3=3)(c1:Tryz.prog.cellsOf s=1)(ci:Tryz.prog.cellsOf 3=1)(ce:Tryz.prog.cellsOf e=4)
  (n:Nat)(cs:A3 AO)(y:DataW Hh×A3 MemPlace)(h:DataW.trod enc Tryz.prog w base spare held n e cs=some y):∃x u,(DB (x:Bl).1.1/\DB x.1.2.1/\DB x.1.2.2)/\u.cells.toList=cs/\(Ah x).ok (λr=>w.heap[r]?) u:=by
 obtain⟨y0,y1,m,_,hl,t0,t1⟩:=trod_struct2 he h;rw[h0.1,h0.2,c3] at t0;rw[h1.1,h1.2,c1] at t1;rw[ce] at hl
 match cs,hl with
 |[c0,c1',c2,c3'],_=>
  obtain⟨z0,z1,z2,q,_,i0,i1,i2⟩:=trod_array3 hn ci t0;obtain⟨a,ea,_,wa⟩:=DataW.trod_int hi i0;obtain⟨b,eb,_,wb⟩:=DataW.trod_int hi i1;obtain⟨c,ec,_,wc⟩:=DataW.trod_int hi i2;obtain⟨d,ed,_,_⟩:=DataW.trod_string hs t1;cases ea;cases eb;cases ec;have ed:c3'= .string d:=by simpa using ed
  subst ed;obtain⟨l⟩:=d;obtain⟨l⟩:=l;have iw:∀{z:Int},(Lit.int .i64 z).wf=true->DB z:=λh=>by
   simp only[Lit.wf,BU,Nz] at h;exact h
  refine⟨((a,b,c),l),.agg #[.int .i64 a,.int .i64 b,.int .i64 c,.string ⟨⟨l⟩⟩],⟨iw wa,iw wb,iw wc⟩,rfl,?_⟩;exact⟨_,rfl,.agg #[.int .i64 a,.int .i64 b,.int .i64 c],_,rfl,⟨_,rfl,_,_,rfl,rfl,_,_,rfl,rfl,_,_,rfl,rfl,rfl⟩,.string ⟨⟨l⟩⟩,_,rfl,rfl,rfl⟩
def Walk:Prop:=∀x0 r,Sb x0=some r-> @EE DR.lax Tryz.prog 4 [(TL<|TL Ah) x0] (.vs [Ar r])
def Law:Prop:=∀x0,(∀b∈x0,∀h∈b,DB h.1.1/\DB h.1.2.1/\DB h.1.2.2)->Sb x0=some true
theorem lifted(hw:Walk)(hl:Law)(os:Os)(started:os.Started)(H:Type)(enc:Af×AO->H):
  ReturnsInHanded {} Tryz.checked os 4 .any (λw args=>(SP.pre enc Tryz.prog Tryz.f4 [] false w args/\laidMetH Tryz.prog RW.laid w)/\sizedMet enc Tryz.prog Tryz.f4 (OpenSpec.ofChange SP) false w args)
   (SP.post enc Tryz.prog Tryz.f4 false true false false):=by
 refine returnsInHanded_of_calls (C:=Tryz.checked) own started A4
  (ChangeSpec.witness_shaped (enc:=enc) (C:=Tryz.checked) (os:=os) (X:=λw _=>laidMetH Tryz.prog RW.laid w) false (World.doorLaid Tryz.prog 62 os) #[.slice none 0 0] 8 rfl (World.shaped_of_RefB A4 A4) A4 A4 A4 (ajO os _)) ?_
 intro w tape i _ By _ Al Tw _;obtain⟨_,_,_,fn',arx,_,_,_,_,JW⟩:=Al;have e:fn'=Tryz.f4:=Dg<|arx.symm.trans Tryz.func4
 subst e;obtain⟨⟨⟨ds,gs,before,hW,_⟩,hx⟩,_⟩:=Tw;have hW':=DataW.Whole.of_heap (w':=w.forCall tape i) (by rfl) hW;have hWk:=hW';obtain⟨p,q,hA0,hV,rfl,hfz,Ht⟩:=hW';have hA:DataW.TrodAll enc Tryz.prog (w.forCall tape i) 0 (λ_=>true) true Tryz.f4.params.toList i.args.toList ds p:=hA0;rw[Tryz.params4] at hA JW;obtain⟨v0,d0,ea,rfl,h0⟩:=trodAll_one hA;obtain⟨rfl,rfl⟩:=trodVars_none hV;rw[ea] at JW hWk⊢;have gl:=alS By<|hx.of_heap rfl
 obtain⟨x0,L1,KJ⟩:=aiE (k:=1) (f:=TL Ah) (R:=λb=>∀h∈b,DB h.1.1/\DB h.1.2.1/\DB h.1.2.2) Tryz.underlying41 A4 (by omega) (λ_=>rfl) (uM (k:=4) (f:=Ah) (R:=λh=>DB h.1.1/\DB h.1.2.1/\DB h.1.2.2) Tryz.underlying25 A4 (by omega) (λ_=>rfl)<|aje (n3:=46) (s:=47) Tryz.underlying49 ⟨rfl,rfl⟩ ⟨rfl,rfl⟩ Tryz.underlying46 Tryz.underlying47 Tryz.underlying3 A4 A4 A4 A4) (JW 0 41 v0 rfl rfl) h0;have hc:=EE.run (D:=DR.lax) (hw x0 true<|hl x0 KJ) (w.forCall tape i) (λr=>(w.forCall tape i).heap[r]?) [v0] (λ_ _ h=>h) gl ⟨v0,_,rfl,L1,rfl⟩;refine hc.mono λe W' ⟨v,he,hb,_,_,_,hr⟩=>?_
 subst he;have hv:v= .bool true:=hr;subst hv;have hlt:∀z∈p,z.block<(w.forCall tape i).heap.size:=λz hz=>by simpa using hWk.lt z (by simpa using hz)
 refine ChangeSpec.post_blind (W:=w.forCall tape i) ⟨[d0],[],p++[],[],p,[],hWk,?_,?_,rfl,hb.toBelow.frame _,λh=>by cases h⟩
 ·exact trodAll_mk1<|shut_bool Tryz.underlying4 true
 ·rw[Tryz.params4]
  skip
  exact trodAll_mk1<|Below.trod laidOut A4 (AZ A4) h0 hb.toBelow<|λz hz=>hlt z<|hz
theorem FQ{a b:Bool}(h:a=true)(k:b=true):(a&&b)=true:=by subst h;subst k;rfl
theorem k1:RW.wf (OpenSpec.ofChange SP)=true:=A4
theorem k3:mapsRowed Tryz.prog=true:=A4
theorem k5:namedTie Tryz.prog RW.named SP.vars=true:=A4
theorem Je:(RW.inPlace==Tryz.prog.inPlace 4)=true:=A4
theorem Mj:(RW.unfollowed==Tryz.prog.unfollowed 4)=true:=A4
theorem Ie:(RW.recurses==Tryz.prog.recurses 4)=true:=A4
theorem k13:(RW.named==Tryz.prog.varsNamed 4)=true:=A4
theorem k23:(RW.plainKeys==Tryz.prog.plainKeys)=true:=A4
theorem k25:Tryz.prog.stopsHeard=true:=A4
theorem Nb:Tryz.prog.mayEnter=true:=A4
theorem k27:(RW.lifted==Tryz.prog.liftsFinal)=true:=A4
theorem KD:(Tryz.prog.make==some RW.make)=true:=A4
theorem amf:joinedFacts Tryz.prog 4 Tryz.f4 SP RW=true:=
 FQ (FQ (FQ (FQ (FQ (FQ (FQ (FQ (FQ (FQ (FQ (FQ (FQ (FQ (FQ (FQ (FQ (FQ (FQ (FQ (FQ (FQ (FQ (FQ (FQ (FQ (FQ (FQ (FQ (FQ (FQ k1 laidOut) k3) A4) k5) A4) A4) A4) A4) Je) Mj) Ie) k13) A4) A4) A4) A4) A4) A4) A4) A4) A4) k23) A4) k25) Nb) k27) KD) A4) A4) A4) A4
theorem aa8:Tryz.prog.funcNamed "trunnel/trunnellaw02.SolidForms" =some 4:=A4
theorem ago(hw:Walk)(hl:Law):Go.Proofs.YtflhfjdapojoiaaGreatDoor.Rows.SolidFormsSaid:=
 OpenClaim.holds_of_wide 4 Tryz.f4 rfl rfl rfl rfl rfl rfl rfl ⟨rfl,rfl,rfl,rfl,rfl⟩ rfl rfl rfl rfl rfl aa8 Tryz.func4 amf
  (AZ A4) (by unfold Func.isWrapper;first|(rw[if_pos (by decide+kernel)];kernel_rfl)|(rw[if_neg (by decide+kernel)];exact⟨rfl,rfl⟩))
  (λos started H enc _=>lifted hw hl os started H enc)
theorem ag8(hw:Walk)(hl:Law):Go.Proofs.YtflhfjdapojoiaaGreatDoor.Rows.SolidFormsCardSaid:=
 Claim7.holds_tied_plain_at .later [] [.data,.data,.data,.sentinel,.sentinel] true (true,"c71639e3307949dff9f5f7a12d169036210af04dcf2f0b7257f1a4291b40065c") true
  (ago hw hl) (λ_ h=>by cases h) A4 (λ_ h=>by cases h) Go.Proofs.YtflhfjdapojoiaaGreatDoor.solidForms_row_tie rfl ⟨rfl,rfl⟩ A4 rfl
  (λf fn hf hfn=>by
   obtain rfl:f=4:=Dg (aa8.symm.trans hf)|>.symm
   obtain rfl:fn=Tryz.f4:=(Dg<|Tryz.func4.symm.trans hfn).symm;exact⟨A4,λj t ht=>by
    rw[Tryz.params4] at ht;have hm:t∈[41]:=by simpa using Array.mem_of_getElem? ht
    have hall:([41].all λu=> !Tryz.prog.wantsStandIn u)=true:=A4;exact(show Tryz.prog.wantsStandIn t=false by simpa using Cy.1 hall t hm)⟩)
  alR
end
end ab9
end Trn
