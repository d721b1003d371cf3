/-
  Part of the proof of SolidNormals.
-/
import Derived.Test.YtflhfjdapojoiaaGreatDoorHc
import Derived.Test.YtflhfjdapojoiaaGreatDoorTie
import Derived.Test.YtflhfjdapojoiaaGreatDoorCards
import Derived.LaidMore
import Derived.OpenShut
import Derived.ProofKit
import Derived.Stop.LaidErr
set_option maxRecDepth 100000
set_option maxHeartbeats 20000000
set_option linter.all false
open Go Go.RowKit Go.Proofs Go.Proofs.Tryz
namespace Trn
namespace av9
section
open Go.ChangeShapes Go.WideShapes
noncomputable abbrev RW:=Go.Proofs.YtflhfjdapojoiaaGreatDoor.Rows.solidNormalsRow
noncomputable abbrev SP:=Go.Proofs.YtflhfjdapojoiaaGreatDoor.Rows.solidNormalsSpec
theorem own:ownKnob Tryz.prog.godebug=none:=aH
theorem laidOut:laidOutB Tryz.prog=true:=aH
theorem adw(os:Os)(args:awa arH):laidMetH Tryz.prog RW.laid ((World.doorLaid Tryz.prog 62 os).forCall (fun _ _=>0) ⟨#[],args,[]⟩).memory:=
 laidMetH_of_parts3 (fuel:=8) (laidMet_of_run' 8 aH aH) aH aH
theorem agG(P:atp)(c:OpenClaim)(h:P.funcs.any Func.goes=false)(hs:c.start= .entering):false=c.goesBy P:=by
 have key:∀f,P.goes f=false:=by
  intro f;unfold Program.goes;rw[h,HW,Lp];rw[LA];intro g hg;cases hf:P.funcs[g]? with
  |none=>simp
  |some fn=>
   obtain⟨hlt,rfl⟩:=Ba.1 hf;have:=Array.any_eq_false.1 h g hlt;simpa using this
 have h2:∀s,P.goesFrom s=false:=fun s=>by
  unfold Program.goesFrom;cases P.funcNamed s with
  |none=>rfl
  |some f=>exact key f
 unfold OpenClaim.goesBy Program.goesAt;rw[h2,hs];rfl
theorem agH:false=RW.goesBy Tryz.prog:=agG _ _ aH rfl
def Rp:av8 TypeDesc->Bool
 |some (.int _)=>false
 |some (.array 20 _)=>false
 |_=>true
theorem BO{P:atp}{T:ato}{o:av8 Obj}(h:Rp (P.underlying T)=true):Ew P T o:=by
 unfold Ew;split
 ·rename_i hu;rw[hu] at h;cases h
 ·rename_i hu;rw[hu] at h;cases h
 ·trivial
theorem agI{w:arG}(pt:w.ShapedOpen Tryz.prog)(hL:laidMetH Tryz.prog RW.laid w.memory):qU Tryz.prog (fun r=>w.heap[r]?):=by
 rw[MakeChecks.laidMetH_plain _ _ _ aH] at hL;have hT:=Lib.tabIs_of_head (name:= "internal/strconv.uint64pow10") (k:= .u64) (zs:=Lib.pow10Tab) (g:=5) (t:=371) (e:=255) (n:=20) aH aH aH aH aH aH hL.tail.tail;have hint:∃m E fr,w.heap[0]? =some (.cells #[.int .i64 m] E fr):=by
  obtain⟨cs,h1,h2,h3⟩:=pt.1 0 #[.int .i64 0] 3 (aZ aH) aH;obtain⟨ts,hts,_,hall⟩:=h3 aH;have e:Tryz.prog.cellTypes Tryz.prog.depth 3=some [3]:=aH;rw[e] at hts;cases hts;obtain⟨l⟩:=cs
  match l,h2 with
  |[c],_=>
   obtain⟨u,hu,ij⟩:=hall 0 c rfl;have hu:u=3:=by simpa using hu.symm
   subst hu;have ht:Tryz.prog.underlying 3=some (.int .i64):=aH;unfold Cell.ok at ij;rw[ht] at ij;cases c with
   |int k m=>
    obtain⟨rfl,_⟩:=ij;exact⟨m,_,_,h1⟩
   |_=>simp at ij
 have htab:∃E fr,w.heap[5]? =some (.cells Cb E fr):=by
  unfold Lib.TabIs World.var? at hT;rw[show Tryz.prog.globalNamed "internal/strconv.uint64pow10" =some 5 by kernel_rfl] at hT;have hT:(match w.heap[5]? with|some (Obj.cells cs _ _)=>some cs|_=>none)=some ((Lib.pow10Tab.map fun z=>Value.int .u64 z).toArray):=hT;split at hT
  ·rename_i cs E fr h;have e:Cb=(Lib.pow10Tab.map fun z=>Value.int .u64 z).toArray:=aH;rw[e,<-eQ hT];exact⟨E,fr,h⟩
  ·cases hT
 intro g T hg;have types:Tryz.prog.globals.toList.map (·.type)=[3,260,260,260,260,371,379,380]:=aH;have hg':(Tryz.prog.globals.toList.map (·.type))[g]? =some T:=by
  rw[kD,wj];exact hg
 rw[types] at hg';have u3:Tryz.prog.underlying 3=some (.int .i64):=aH;have aeR:Rp (Tryz.prog.underlying 260)=true:=aH;have aoi:Rp (Tryz.prog.underlying 379)=true:=aH;have aoh:Rp (Tryz.prog.underlying 380)=true:=aH;have aoj:Tryz.prog.underlying 371=some (.array 20 255):=aH
 match g,hg' with
 |0,e=>cases e;unfold Ew;rw[u3];exact hint
 |1,e=>cases e;exact BO aeR
 |2,e=>cases e;exact BO aeR
 |3,e=>cases e;exact BO aeR
 |4,e=>cases e;exact BO aeR
 |5,e=>cases e;unfold Ew;rw[aoj];exact htab
 |6,e=>cases e;exact BO aoi
 |7,e=>cases e;exact BO aoh
 |g+8,e=>simp at e
theorem abg{Hh:Type}{enc:ato×arH->Hh}{P:atp}{w:arG}{r:Reach}{base ann:Nat}{spare:Nat->Bool}{held:Bool}{α:Type}{f:α->Ty}{R:α->Prop}{t e:ato}{k:Nat}{v:arH}{d:DataW Hh}{ps:att MemPlace}
  (ht:P.underlying t=some (.slice e))(hc:P.cellsOf e=k)(hk:0<k)(hn:∀x,(f x).n=k)
  (elem:∀n cs y,DataW.trod enc P w base spare held n e cs=some y->∃x u,R x/\u.cells.toList=cs/\(f x).ok (fun r=>w.heap[r]?) u)
  (hv:Value.okWide P w r ann t v)(h:DataW.Trod enc P w base spare held t v d ps):∃x:att α,(TL f x).ok (fun r=>w.heap[r]?) v/\∀y∈x,R y:=by
 obtain⟨fuel,hf⟩:=h;obtain⟨a0,len,cap,rfl⟩:=okWide_slice ht hv;rcases DataW.trod_slice ht hf with⟨e0,_⟩|⟨a,aca,WX,elems,rest,n,_,e0,_,_,hl,_,hlen,hel,_,_⟩
 ·have e1:[Value.slice a0 len cap]=[.slice none 0 0]:=e0;cases e1;exact⟨[],zTL,fun y my=>by cases my⟩
 ·have e1:[Value.slice a0 len cap]=[.slice (some a) aca WX]:=e0;cases e1;have hw:a.spot=none/\∃cs E fr,w.heap[a.block]? =some (.cells cs E fr):=by
   simp only[Value.okWide,ht,Cell.okWide,Cell.ok] at hv;obtain⟨_,_,_,hs,row,cells,pt,_⟩:=hv;refine⟨hs,?_⟩;unfold World.shape? at pt;split at pt
   ·rename_i c E fr hq;exact⟨c,E,fr,hq⟩
   ·cases pt
  obtain⟨hs,cs,E,fr,hq⟩:=hw;have cell:∀j,w.cell? (a.add j)=cs[a.off+j]? :=fun j=>by
   unfold World.cell? Addr.add;by_cases h0:j=0
   ·subst h0;simp[hq,hs]
   ·simp[h0,hq]
  have main:∀m,m<=len->∃l:att α,l.length=m/\vH (fun r=>w.heap[r]?) (lT f l) ((cs.toList.drop a.off).take<|m*k)/\(∀y∈l,R y)/\(0<m->a.off+m*k<=cs.size):=by
   intro m
   induction m with
   |zero=>intro _;exact⟨[],rfl,by simp[lT,vH],by simp,by omega⟩
   |succ m ih=>
    intro hm;obtain⟨l,l1,l2,l3,l4⟩:=ih (by omega);have hy:=hel m (by omega);obtain⟨y,hy'⟩:∃y,elems[m]? =some y:=⟨_,j7 (by omega)⟩;rw[hy',Option.bind_eq_some_iff] at hy;obtain⟨ci,hci,htr⟩:=hy;rw[hc] at hci;obtain⟨_,c1,c2⟩:=World.cells?_some hci;obtain⟨x,u,hx,hu,ij⟩:=elem _ _ _ htr;have at_:∀j,j<k->cs[a.off+m*k+j]? =ci[j]? :=fun j hj=>by
     rw[<-c2 j hj];have:(a.add<|m*k).add j=a.add (m*k+j):=by
      unfold Addr.add;by_cases h0:j=0
      ·subst h0;simp
      ·by_cases h1:m*k=0
       ·simp[h0,h1]
       ·have h2:m*k+j≠0:=by omega
        simp[h0,h1,h2,rR]
     rw[this,cell];congr 1;omega
    have le:a.off+(m+1)*k<=cs.size:=by
     have:=at_ (k-1) (by omega);rw[j7 (show k-1<ci.length by omega)] at this;obtain⟨hlt,_⟩:=Ba.1 this;rw[Cs];omega
    have take:(cs.toList.drop<|a.off+m*k).take k=ci:=by
     apply EZ;intro j;by_cases hj:j<k
     ·rw[List.getElem?_take_of_lt hj,wW,wj,at_ j hj]
     ·rw[E4 (by rw[List.length_take];omega),E4 (by omega)]
    refine⟨l++[x],by simp[l1],?_,fun y my=>?_,fun _=>?_⟩
    ·rw[Cs,List.take_add,iS,take];show vH _ ((l++[x]).map f) _;rw[wh];exact qz l2 ⟨u,[],by rw[hu];simp,ij,rfl⟩
    ·rcases bN.1 my with my|my
     ·exact l3 y my
     ·rw[cr.1 my];exact hx
    ·exact le
  obtain⟨l,l1,l2,l3,l4⟩:=main len<|bp _
  have ll:(lT f l).length=len:=by rw[c7,l1]
  have cn:∀l:att α,cc (lT f l)=l.length*k:=fun l=>by
   induction l with
   |nil=>simp
   |cons x l ih=>show cc (f x::lT f l)=_;rw[Em,ih,hn,List.length_cons,Cs,wS]
  refine⟨l,⟨some a,cap,by rw[ll],by rw[ll];exact hl,fun hne=>⟨a.block,a.off,cs,E,fr,?_,hq,?_,?_⟩⟩,l3⟩
  ·obtain⟨b,o,sp⟩:=a;dsimp only at hs;rw[hs]
  ·rw[cn,l1];refine l4<|Nat.pos_of_ne_zero fun h0=>hne ?_
   rw[h0] at ll;exact pZ ll
  ·rw[cn,l1];exact l2
theorem adT{Hh:Type}{enc:ato×arH->Hh}{w:arG}{base:Nat}{spare:Nat->Bool}{held:Bool}{e n3 s:ato}{f0 f1:Field}(he:Tryz.prog.underlying e=some (.struct #[f0,f1]))(h0:f0.type=n3/\f0.offset=0)(h1:f1.type=s/\f1.offset=3)
  (hn:Tryz.prog.underlying n3=some (.array 3 3))(hs:Tryz.prog.underlying s=some .string)(hi:Tryz.prog.underlying 3=some (.int .i64))(c3:Tryz.prog.cellsOf n3=3)(c1:Tryz.prog.cellsOf s=1)(ci:Tryz.prog.cellsOf 3=1)(ce:Tryz.prog.cellsOf e=4)
  (n:Nat)(cs:att arH)(y:DataW Hh×att MemPlace)(h:DataW.trod enc Tryz.prog w base spare held n e cs=some y):∃x u,(Bh (x:bV).1.1/\Bh x.1.2.1/\Bh x.1.2.2)/\u.cells.toList=cs/\(aq x).ok (fun r=>w.heap[r]?) u:=by
 obtain⟨y0,y1,m,_,hl,t0,t1⟩:=trod_struct2 he h;rw[h0.1,h0.2,c3] at t0;rw[h1.1,h1.2,c1] at t1;rw[ce] at hl
 match cs,hl with
 |[c0,c1',c2,c3'],_=>
  obtain⟨z0,z1,z2,q,_,i0,i1,i2⟩:=trod_array3 hn ci t0;obtain⟨a,ea,_,wa⟩:=DataW.trod_int hi i0;obtain⟨b,eb,_,wb⟩:=DataW.trod_int hi i1;obtain⟨c,ec,_,wc⟩:=DataW.trod_int hi i2;obtain⟨d,ed,_,_⟩:=DataW.trod_string hs t1;cases ea;cases eb;cases ec;have ed:c3'= .string d:=by simpa using ed
  subst ed;obtain⟨l⟩:=d;obtain⟨l⟩:=l;have iw:∀{z:Int},(Lit.int .i64 z).wf=true->Bh z:=fun h=>by
   simp only[Lit.wf,bY,vj] at h;exact h
  refine⟨((a,b,c),l),.agg #[.int .i64 a,.int .i64 b,.int .i64 c,.string ⟨⟨l⟩⟩],⟨iw wa,iw wb,iw wc⟩,rfl,?_⟩;exact⟨_,rfl,.agg #[.int .i64 a,.int .i64 b,.int .i64 c],_,rfl,⟨_,rfl,_,_,rfl,rfl,_,_,rfl,rfl,_,_,rfl,rfl,rfl⟩,.string ⟨⟨l⟩⟩,_,rfl,rfl,rfl⟩
def Walk:Prop:=∀x0 r,iv x0=some r-> @fN DR.lax Tryz.prog 3 [(TL aq) x0] (.vs [bj r])
def Law:Prop:=∀x0,(∀h∈x0,Bh h.1.1/\Bh h.1.2.1/\Bh h.1.2.2)->iv x0=some true
theorem lifted(hw:Walk)(hl:Law)(os:Os)(started:os.Started)(H:Type)(enc:ato×arH->H):
  ReturnsInHanded {} Tryz.checked os 3 .any (fun w args=>(SP.pre enc Tryz.prog Tryz.f3 [] false w args/\laidMetH Tryz.prog RW.laid w)/\sizedMet enc Tryz.prog Tryz.f3 (OpenSpec.ofChange SP) false w args)
   (SP.post enc Tryz.prog Tryz.f3 false true false false):=by
 refine returnsInHanded_of_calls (C:=Tryz.checked) own started aH
  (ChangeSpec.witness_shaped (enc:=enc) (C:=Tryz.checked) (os:=os) (X:=fun w _=>laidMetH Tryz.prog RW.laid w) false (World.doorLaid Tryz.prog 62 os) #[.slice none 0 0] 8 rfl (World.shaped_of_RefB aH aH) aH aH aH (adw os _)) ?_
 intro w tape i _ pt _ ij Wg _;obtain⟨_,_,_,fn',apW,_,_,_,_,Da⟩:=ij;have e:fn'=Tryz.f3:=eQ<|apW.symm.trans Tryz.func3
 subst e;obtain⟨⟨⟨ds,gs,before,hW,_⟩,hx⟩,_⟩:=Wg;have hW':=DataW.Whole.of_heap (w':=w.forCall tape i) (by rfl) hW;have hWk:=hW';obtain⟨p,q,hA0,hV,rfl,hfz,Sk⟩:=hW';have hA:DataW.TrodAll enc Tryz.prog (w.forCall tape i) 0 (fun _=>true) true Tryz.f3.params.toList i.args.toList ds p:=hA0;rw[Tryz.params3] at hA Da;obtain⟨v0,d0,ea,rfl,h0⟩:=trodAll_one hA;obtain⟨rfl,rfl⟩:=trodVars_none hV;rw[ea] at Da hWk⊢;have gl:=agI pt<|hx.of_heap rfl
 obtain⟨x0,Ve,Uf⟩:=abg (k:=4) (f:=aq) (R:=fun h=>Bh h.1.1/\Bh h.1.2.1/\Bh h.1.2.2) Tryz.underlying22 aH (by omega) (fun _=>rfl) (adT (n3:=46) (s:=47) Tryz.underlying49 ⟨rfl,rfl⟩ ⟨rfl,rfl⟩ Tryz.underlying46 Tryz.underlying47 Tryz.underlying3 aH aH aH aH) (Da 0 22 v0 rfl rfl) h0;have hc:=fN.run (D:=DR.lax) (hw x0 true<|hl x0 Uf) (w.forCall tape i) (fun r=>(w.forCall tape i).heap[r]?) [v0] (fun _ _ h=>h) gl ⟨v0,_,rfl,Ve,rfl⟩;refine hc.mono fun e W' ⟨v,he,hb,_,_,_,hr⟩=>?_
 subst he;have hv:v= .bool true:=hr;subst hv;have hlt:∀z∈p,z.block<(w.forCall tape i).heap.size:=fun z hz=>by simpa using hWk.lt z (by simpa using hz)
 refine ChangeSpec.post_blind (W:=w.forCall tape i) ⟨[d0],[],p++[],[],p,[],hWk,?_,?_,rfl,hb.toBelow.frame _,fun h=>by cases h⟩
 ·exact trodAll_mk1<|shut_bool Tryz.underlying4 true
 ·rw[Tryz.params3]
  skip
  exact trodAll_mk1<|Below.trod laidOut aH (aZ aH) h0 hb.toBelow<|fun z hz=>hlt z<|hz
theorem tJ{a b:Bool}(h:a=true)(k:b=true):(a&&b)=true:=by subst h;subst k;rfl
theorem k1:RW.wf (OpenSpec.ofChange SP)=true:=aH
theorem k3:mapsRowed Tryz.prog=true:=aH
theorem k5:namedTie Tryz.prog RW.named SP.vars=true:=aH
theorem Np:(RW.inPlace==Tryz.prog.inPlace 3)=true:=aH
theorem Si:(RW.unfollowed==Tryz.prog.unfollowed 3)=true:=aH
theorem PU:(RW.recurses==Tryz.prog.recurses 3)=true:=aH
theorem k13:(RW.named==Tryz.prog.varsNamed 3)=true:=aH
theorem k23:(RW.plainKeys==Tryz.prog.plainKeys)=true:=aH
theorem k25:Tryz.prog.stopsHeard=true:=aH
theorem Vd:Tryz.prog.mayEnter=true:=aH
theorem k27:(RW.lifted==Tryz.prog.liftsFinal)=true:=aH
theorem k28:(Tryz.prog.make==some RW.make)=true:=aH
theorem ai2:joinedFacts Tryz.prog 3 Tryz.f3 SP RW=true:=
 tJ (tJ (tJ (tJ (tJ (tJ (tJ (tJ (tJ (tJ (tJ (tJ (tJ (tJ (tJ (tJ (tJ (tJ (tJ (tJ (tJ (tJ (tJ (tJ (tJ (tJ (tJ (tJ (tJ (tJ (tJ k1 laidOut) k3) aH) k5) aH) aH) aH) aH) Np) Si) PU) k13) aH) aH) aH) aH) aH) aH) aH) aH) aH) k23) aH) k25) Vd) k27) k28) aH) aH) aH) aH
theorem ahA:Tryz.prog.funcNamed "trunnel/trunnellaw02.SolidNormals" =some 3:=aH
theorem Zu(hw:Walk)(hl:Law):Go.Proofs.YtflhfjdapojoiaaGreatDoor.Rows.SolidNormalsSaid:=
 OpenClaim.holds_of_wide 3 Tryz.f3 rfl rfl rfl rfl rfl rfl rfl ⟨rfl,rfl,rfl,rfl,rfl⟩ rfl rfl rfl rfl rfl ahA Tryz.func3 ai2
  (aZ aH) (by unfold Func.isWrapper;first|(rw[if_pos (by decide+kernel)];kernel_rfl)|(rw[if_neg (by decide+kernel)];exact⟨rfl,rfl⟩))
  (fun os started H enc _=>lifted hw hl os started H enc)
theorem WW(hw:Walk)(hl:Law):Go.Proofs.YtflhfjdapojoiaaGreatDoor.Rows.SolidNormalsCardSaid:=
 Claim7.holds_tied_plain_at .later [] [.data,.data,.data,.sentinel,.sentinel] true (true,"c71639e3307949dff9f5f7a12d169036210af04dcf2f0b7257f1a4291b40065c") true
  (Zu hw hl) (fun _ h=>by cases h) aH (fun _ h=>by cases h) Go.Proofs.YtflhfjdapojoiaaGreatDoor.solidNormals_row_tie rfl ⟨rfl,rfl⟩ aH rfl
  (fun f fn hf hfn=>by
   obtain rfl:f=3:=eQ (ahA.symm.trans hf)|>.symm
   obtain rfl:fn=Tryz.f3:=(eQ<|Tryz.func3.symm.trans hfn).symm;exact⟨aH,fun j t ht=>by
    rw[Tryz.params3] at ht;have hm:t∈[22]:=by simpa using Array.mem_of_getElem? ht
    have hall:([22].all fun u=> !Tryz.prog.wantsStandIn u)=true:=aH;exact(show Tryz.prog.wantsStandIn t=false by simpa using dI.1 hall t hm)⟩)
  agH
end
end av9
end Trn
