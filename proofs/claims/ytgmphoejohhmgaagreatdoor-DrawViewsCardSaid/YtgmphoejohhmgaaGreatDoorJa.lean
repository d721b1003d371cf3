/-
  Part of the proof of DrawViews.
-/
import Derived.Test.YtgmphoejohhmgaaGreatDoorHc
import Derived.Test.YtgmphoejohhmgaaGreatDoorTie
import Derived.Test.YtgmphoejohhmgaaGreatDoorCards
import Derived.LaidMore
import Derived.OpenShut
import Derived.ProofKit
import Derived.Stop.LaidErr
set_option maxRecDepth 100000
set_option maxHeartbeats 20000000
set_option linter.all false
open Go Go.RowKit Go.Proofs Go.Proofs.Tryz
namespace Trn
namespace Join
section
open Go.ChangeShapes Go.WideShapes
noncomputable abbrev RW:=Go.Proofs.YtgmphoejohhmgaaGreatDoor.Rows.drawViewsRow
noncomputable abbrev SP:=Go.Proofs.YtgmphoejohhmgaaGreatDoor.Rows.drawViewsSpec
theorem own:ownKnob Tryz.prog.godebug=none:=by kernel_rfl
theorem laidOut:laidOutB Tryz.prog=true:=by kernel_rfl
theorem ac1(os:Os)(args:ath apU):laidMetH Tryz.prog RW.laid ((World.doorLaid Tryz.prog 62 os).forCall (fun _ _=>0) ⟨#[],args,[]⟩).memory:=
 laidMetH_of_parts3 (fuel:=8) (laidMet_of_run' 8 (by kernel_rfl) (by kernel_rfl)) (by kernel_rfl) (by kernel_rfl)
theorem afJ(P:arb)(c:OpenClaim)(h:P.funcs.any Func.goes=false)(hs:c.start= .entering):false=c.goesBy P:=by
 have key:∀f,P.goes f=false:=by
  intro f;unfold Program.goes;rw[h,Is,Bool.or_false];rw[List.any_eq_false];intro g hg;cases hf:P.funcs[g]? with
  |none=>simp
  |some fn=>
   obtain⟨hlt,rfl⟩:=wM.1 hf;have:=Array.any_eq_false.1 h g hlt;simpa using this
 have h2:∀s,P.goesFrom s=false:=fun s=>by
  unfold Program.goesFrom;cases P.funcNamed s with
  |none=>rfl
  |some f=>exact key f
 unfold OpenClaim.goesBy Program.goesAt;rw[h2,hs];rfl
theorem afK:false=RW.goesBy Tryz.prog:=afJ _ _ (by kernel_rfl) rfl
theorem aaN{P:arb}{w:apT}{r:Reach}{base:Nat}{t:aq9}{v:apU}(ht:P.underlying t=some .string)(h:Cell.okWide P w r base t v):∃l,v=Value.string ⟨(l:adx).toArray⟩:=by
 unfold Cell.okWide at h;rw[ht] at h;unfold Cell.ok at h;rw[ht] at h;cases v with
 |string s=>exact⟨s.data.toList,by simp⟩
 |_=>simp at h
def af1:atg TypeDesc->Bool
 |some (.struct _)=>true
 |some (.array _ _)=>true
 |_=>false
theorem Ti{P:arb}{w:apT}{r:Reach}{base:Nat}{t s:aq9}{n:Nat}{v:apU}(ht:af1 (P.underlying t)=true)(hs:P.underlying s=some .string)(hc:P.cellTypes P.depth t=some (List.replicate n s))(hn:P.cellsOf t=n)(h0:0<n)(h:Value.okWide P w r base t v):
  ∃cs:ath apU,v= .agg cs/\cs.size=n/\∀(i:Nat) (c:apU),cs[i]? =some c->∃l,c=Value.string ⟨(l:adx).toArray⟩:=by
 have h:∃cs,v= .agg cs/\cs.size=P.cellsOf t/\Row.okWide P w r base t cs:=by
  unfold Value.okWide at h;split at h
  ·exact h
  ·exact h
  ·rename_i h1 h2;unfold af1 at ht;split at ht
   ·rename_i h3;exact absurd h3<|h1 _
   ·rename_i h3;exact absurd h3<|h2 _ _
   ·cases ht
 obtain⟨cs,e,hsz,ts,hts,_,hall⟩:=h;rw[hc] at hts;cases hts;refine⟨cs,e,hsz.trans hn,fun i c hi=>?_⟩;obtain⟨u,hu,gq⟩:=hall i c hi;rw[uQ] at hu;have:=(iG.1 hu);obtain⟨_,e⟩:=this;rw[List.getElem_replicate] at e;subst e;exact aaN hs gq
theorem ag6{w:apT}{r:Reach}{base:Nat}{v:apU}{H:HV}{t:aq9}(ht:af1 (Tryz.prog.underlying t)=true)(hc:Tryz.prog.cellTypes Tryz.prog.depth t=some (List.replicate 3 22))(hn:Tryz.prog.cellsOf t=3)(hs:Tryz.prog.underlying 22=some .string)(h:Value.okWide Tryz.prog w r base t v):∃x,(aW x).ok H v:=by
 obtain⟨cs,rfl,hsz,hall⟩:=Ti ht hs hc hn (by omega) h;obtain⟨l⟩:=cs
 match l,hsz with
 |[a,b,c],_=>
  obtain⟨x,rfl⟩:=hall 0 a rfl;obtain⟨y,rfl⟩:=hall 1 b rfl;obtain⟨z,rfl⟩:=hall 2 c rfl;exact⟨(x,y,z),_,rfl,_,_,rfl,rfl,_,_,rfl,rfl,_,_,rfl,rfl,rfl⟩
theorem aec{w:apT}{r:Reach}{base:Nat}{v:apU}{H:HV}{t:aq9}(ht:af1 (Tryz.prog.underlying t)=true)(hc:Tryz.prog.cellTypes Tryz.prog.depth t=some (List.replicate 9 22))(hn:Tryz.prog.cellsOf t=9)(hs:Tryz.prog.underlying 22=some .string)(h:Value.okWide Tryz.prog w r base t v):∃x,(cz x).ok H v:=by
 obtain⟨cs,rfl,hsz,hall⟩:=Ti ht hs hc hn (by omega) h;obtain⟨l⟩:=cs
 match l,hsz with
 |[a,b,c,d,e,f,g,h,i],_=>
  obtain⟨a,rfl⟩:=hall 0 a rfl;obtain⟨b,rfl⟩:=hall 1 b rfl;obtain⟨c,rfl⟩:=hall 2 c rfl;obtain⟨d,rfl⟩:=hall 3 d rfl;obtain⟨e,rfl⟩:=hall 4 e rfl;obtain⟨f,rfl⟩:=hall 5 f rfl;obtain⟨g,rfl⟩:=hall 6 g rfl;obtain⟨h,rfl⟩:=hall 7 h rfl;obtain⟨i,rfl⟩:=hall 8 i rfl;refine⟨((a,b,c),(d,e,f),(g,h,i)),_,rfl,.agg #[.string ⟨a.toArray⟩,.string ⟨b.toArray⟩,.string ⟨c.toArray⟩],_,rfl,⟨_,rfl,_,_,rfl,rfl,_,_,rfl,rfl,_,_,rfl,rfl,rfl⟩,.agg #[.string ⟨d.toArray⟩,.string ⟨e.toArray⟩,.string ⟨f.toArray⟩],_,rfl,⟨_,rfl,_,_,rfl,rfl,_,_,rfl,rfl,_,_,rfl,rfl,rfl⟩,.agg #[.string ⟨g.toArray⟩,.string ⟨h.toArray⟩,.string ⟨i.toArray⟩],_,rfl,⟨_,rfl,_,_,rfl,rfl,_,_,rfl,rfl,_,_,rfl,rfl,rfl⟩,rfl⟩
def Rz:atg TypeDesc->Bool
 |some (.int _)=>false
 |some (.array 20 _)=>false
 |_=>true
theorem Bb{P:arb}{T:aq9}{o:atg Obj}(h:Rz (P.underlying T)=true):Ea P T o:=by
 unfold Ea;split
 ·rename_i hu;rw[hu] at h;cases h
 ·rename_i hu;rw[hu] at h;cases h
 ·trivial
theorem afL{w:apT}(nP:w.ShapedOpen Tryz.prog)(hL:laidMetH Tryz.prog RW.laid w.memory):pI Tryz.prog (fun r=>w.heap[r]?):=by
 rw[MakeChecks.laidMetH_plain _ _ _ (by kernel_rfl)] at hL;have hT:=Lib.tabIs_of_head (name:= "internal/strconv.uint64pow10") (k:= .u64) (zs:=Lib.pow10Tab) (g:=5) (t:=477) (e:=332) (n:=20) (by kernel_rfl) (by kernel_rfl) (by kernel_rfl) (by kernel_rfl) (by kernel_rfl) (by kernel_rfl) hL.tail.tail;have hint:∃m E fr,w.heap[0]? =some (.cells #[.int .i64 m] E fr):=by
  obtain⟨cs,h1,h2,h3⟩:=nP.1 0 #[.int .i64 0] 3 (bf (by kernel_rfl)) (by kernel_rfl);obtain⟨ts,hts,_,hall⟩:=h3 (by kernel_rfl);have e:Tryz.prog.cellTypes Tryz.prog.depth 3=some [3]:=by kernel_rfl
  rw[e] at hts;cases hts;obtain⟨l⟩:=cs
  match l,h2 with
  |[c],_=>
   obtain⟨u,hu,gq⟩:=hall 0 c rfl;have hu:u=3:=by simpa using hu.symm
   subst hu;have ht:Tryz.prog.underlying 3=some (.int .i64):=by kernel_rfl
   unfold Cell.ok at gq;rw[ht] at gq;cases c with
   |int k m=>
    obtain⟨rfl,_⟩:=gq;exact⟨m,_,_,h1⟩
   |_=>simp at gq
 have htab:∃E fr,w.heap[5]? =some (.cells Bw E fr):=by
  unfold Lib.TabIs World.var? at hT;rw[show Tryz.prog.globalNamed "internal/strconv.uint64pow10" =some 5 by kernel_rfl] at hT;have hT:(match w.heap[5]? with|some (Obj.cells cs _ _)=>some cs|_=>none)=some ((Lib.pow10Tab.map fun z=>Value.int .u64 z).toArray):=hT;split at hT
  ·rename_i cs E fr h;have e:Bw=(Lib.pow10Tab.map fun z=>Value.int .u64 z).toArray:=by kernel_rfl
   rw[e,<-fj hT];exact⟨E,fr,h⟩
  ·cases hT
 intro g T hg;have types:Tryz.prog.globals.toList.map (·.type)=[3,158,158,158,158,477,495,496]:=by kernel_rfl
 have hg':(Tryz.prog.globals.toList.map (·.type))[g]? =some T:=by
  rw[mH,uR];exact hg
 rw[types] at hg';have u3:Tryz.prog.underlying 3=some (.int .i64):=by kernel_rfl
 have aed:Rz (Tryz.prog.underlying 158)=true:=by kernel_rfl
 have anc:Tryz.prog.underlying 477=some (.array 20 332):=by kernel_rfl
 have anb:Rz (Tryz.prog.underlying 495)=true:=by kernel_rfl
 have ana:Rz (Tryz.prog.underlying 496)=true:=by kernel_rfl
 match g,hg' with
 |0,e=>cases e;unfold Ea;rw[u3];exact hint
 |1,e=>cases e;exact Bb aed
 |2,e=>cases e;exact Bb aed
 |3,e=>cases e;exact Bb aed
 |4,e=>cases e;exact Bb aed
 |5,e=>cases e;unfold Ea;rw[anc];exact htab
 |6,e=>cases e;exact Bb anb
 |7,e=>cases e;exact Bb ana
 |g+8,e=>simp at e
def Walk:Prop:=∀a0 a1 r,kq a0 a1=some r-> @al DR.lax Tryz.prog 3 [cz a0,aW a1] (.vs [aY r])
def Law:Prop:=∀v p,kq v p=some true
theorem lifted(hw:Walk)(hl:Law)(os:Os)(started:os.Started)(H:Type)(enc:aq9×apU->H):
  ReturnsInHanded {} Tryz.checked os 3 .any (fun w args=>(SP.pre enc Tryz.prog Tryz.f3 [] false w args/\laidMetH Tryz.prog RW.laid w)/\sizedMet enc Tryz.prog Tryz.f3 (OpenSpec.ofChange SP) false w args)
   (SP.post enc Tryz.prog Tryz.f3 false true false false):=by
 refine returnsInHanded_of_calls (C:=Tryz.checked) own started (by kernel_rfl)
  (ChangeSpec.witness_shaped (enc:=enc) (C:=Tryz.checked) (os:=os) (X:=fun w _=>laidMetH Tryz.prog RW.laid w) false (World.doorLaid Tryz.prog 62 os) #[.agg #[.string ⟨#[]⟩,.string ⟨#[]⟩,.string ⟨#[]⟩,.string ⟨#[]⟩,.string ⟨#[]⟩,.string ⟨#[]⟩,.string ⟨#[]⟩,.string ⟨#[]⟩,.string ⟨#[]⟩],.agg #[.string ⟨#[]⟩,.string ⟨#[]⟩,.string ⟨#[]⟩]] 8 rfl (World.shaped_of_RefB (by kernel_rfl) (by kernel_rfl)) (by kernel_rfl) (by kernel_rfl) (by kernel_rfl) (ac1 os _)) ?_
 intro w tape i _ nP _ gq NU _;obtain⟨_,_,_,fn',aop,_,_,_,_,Fb⟩:=gq;have e:fn'=Tryz.f3:=fj<|aop.symm.trans Tryz.func3
 subst e;obtain⟨⟨⟨ds,gs,before,hW,_⟩,hx⟩,_⟩:=NU;have hW':=DataW.Whole.of_heap (w':=w.forCall tape i) (by rfl) hW;have hWk:=hW';obtain⟨p,q,hA0,hV,rfl,hfz,Pl⟩:=hW';have hA:DataW.TrodAll enc Tryz.prog (w.forCall tape i) 0 (fun _=>true) true Tryz.f3.params.toList i.args.toList ds p:=hA0;rw[Tryz.params3] at hA Fb;obtain⟨v0,v1,d0,d1,p0,p1,ea,rfl,rfl,h0,h1⟩:=trodAll_two hA;obtain⟨rfl,rfl⟩:=trodVars_none hV;rw[ea] at Fb hWk⊢;have gl:=afL nP<|hx.of_heap rfl
 obtain⟨x,UU⟩:=aec (H:=fun r=>(w.forCall tape i).heap[r]?) (t:=26) (by kernel_rfl) (by kernel_rfl) (by kernel_rfl) Tryz.underlying22<|Fb 0 26 v0 rfl rfl
 obtain⟨y,hy0⟩:=ag6 (H:=fun r=>(w.forCall tape i).heap[r]?) (t:=24) (by kernel_rfl) (by kernel_rfl) (by kernel_rfl) Tryz.underlying22<|Fb 1 24 v1 rfl rfl
 have hc:=al.run (D:=DR.lax) (hw x y true<|hl x y) (w.forCall tape i) (fun r=>(w.forCall tape i).heap[r]?) [v0,v1] (fun _ _ h=>h) gl ⟨v0,_,rfl,UU,v1,_,rfl,hy0,rfl⟩;refine hc.mono fun e W' ⟨v,he,hb,_,_,_,hr⟩=>?_
 subst he;have hv:v= .bool true:=hr;subst hv;have hlt:∀z∈p0++p1,z.block<(w.forCall tape i).heap.size:=fun z hz=>by simpa using hWk.lt z (by simpa using hz)
 refine ChangeSpec.post_blind (W:=w.forCall tape i) ⟨[d0,d1],[],p0++p1++[],[],p0++p1,[],hWk,?_,?_,rfl,hb.toBelow.frame _,fun h=>by cases h⟩
 ·exact trodAll_mk1<|shut_bool Tryz.underlying4 true
 ·rw[Tryz.params3];exact trodAll_mk2 (Below.trod laidOut (by kernel_rfl) (bf (by kernel_rfl)) h0 hb.toBelow<|fun z hz=>hlt z<|B7 _ hz)
   (Below.trod laidOut (by kernel_rfl) (bf (by kernel_rfl)) h1 hb.toBelow<|fun z hz=>hlt z<|Ap _ hz)
theorem r8{a b:Bool}(h:a=true)(k:b=true):(a&&b)=true:=by subst h;subst k;rfl
theorem k1:RW.wf (OpenSpec.ofChange SP)=true:=by kernel_rfl
theorem k3:mapsRowed Tryz.prog=true:=by kernel_rfl
theorem k5:namedTie Tryz.prog RW.named SP.vars=true:=by kernel_rfl
theorem OM:(RW.inPlace==Tryz.prog.inPlace 3)=true:=by kernel_rfl
theorem k11:(RW.unfollowed==Tryz.prog.unfollowed 3)=true:=by kernel_rfl
theorem Md:(RW.recurses==Tryz.prog.recurses 3)=true:=by kernel_rfl
theorem k13:(RW.named==Tryz.prog.varsNamed 3)=true:=by kernel_rfl
theorem k23:(RW.plainKeys==Tryz.prog.plainKeys)=true:=by kernel_rfl
theorem k25:Tryz.prog.stopsHeard=true:=by kernel_rfl
theorem NO:Tryz.prog.mayEnter=true:=by kernel_rfl
theorem VR:(RW.lifted==Tryz.prog.liftsFinal)=true:=by kernel_rfl
theorem XD:(Tryz.prog.make==some RW.make)=true:=by kernel_rfl
theorem ahU:joinedFacts Tryz.prog 3 Tryz.f3 SP RW=true:=
 r8 (r8 (r8 (r8 (r8 (r8 (r8 (r8 (r8 (r8 (r8 (r8 (r8 (r8 (r8 (r8 (r8 (r8 (r8 (r8 (r8 (r8 (r8 (r8 (r8 (r8 (r8 (r8 (r8 (r8 (r8 k1 laidOut) k3) (by kernel_rfl)) k5) (by kernel_rfl)) (by kernel_rfl)) (by kernel_rfl)) (by kernel_rfl)) OM) k11) Md) k13) (by kernel_rfl)) (by kernel_rfl)) (by kernel_rfl)) (by kernel_rfl)) (by kernel_rfl)) (by kernel_rfl)) (by kernel_rfl)) (by kernel_rfl)) (by kernel_rfl)) k23) (by kernel_rfl)) k25) NO) VR) XD) (by kernel_rfl)) (by kernel_rfl)) (by kernel_rfl)) (by kernel_rfl)
theorem agv:Tryz.prog.funcNamed "trunnel/trunnellaw09.DrawViews" =some 3:=by kernel_rfl
theorem Y6(hw:Walk)(hl:Law):Go.Proofs.YtgmphoejohhmgaaGreatDoor.Rows.DrawViewsSaid:=
 OpenClaim.holds_of_wide 3 Tryz.f3 rfl rfl rfl rfl rfl rfl rfl ⟨rfl,rfl,rfl,rfl,rfl⟩ rfl rfl rfl rfl rfl agv Tryz.func3 ahU
  (bf (by kernel_rfl)) (by unfold Func.isWrapper;first|(rw[if_pos (by decide+kernel)];kernel_rfl)|(rw[if_neg (by decide+kernel)];exact⟨rfl,rfl⟩))
  (fun os started H enc _=>lifted hw hl os started H enc)
theorem Ww(hw:Walk)(hl:Law):Go.Proofs.YtgmphoejohhmgaaGreatDoor.Rows.DrawViewsCardSaid:=
 Claim7.holds_tied_plain_at .later [] [.data,.data,.data,.sentinel,.sentinel] true (true,"fd1c5f0863dfb96a3ae22376f747db916690874ec5999bfa893e5a96c9a9b077") true
  (Y6 hw hl) (fun _ h=>by cases h) (by kernel_rfl) (fun _ h=>by cases h) Go.Proofs.YtgmphoejohhmgaaGreatDoor.drawViews_row_tie rfl ⟨rfl,rfl⟩ (by kernel_rfl) rfl
  (fun f fn hf hfn=>by
   obtain rfl:f=3:=fj (agv.symm.trans hf)|>.symm
   obtain rfl:fn=Tryz.f3:=(fj<|Tryz.func3.symm.trans hfn).symm;exact⟨by kernel_rfl,fun j t ht=>by
    rw[Tryz.params3] at ht;have hm:t∈[26,24]:=by simpa using Array.mem_of_getElem? ht
    have hall:([26,24].all fun u=> !Tryz.prog.wantsStandIn u)=true:=by kernel_rfl
    exact(show Tryz.prog.wantsStandIn t=false by simpa using db.1 hall t hm)⟩)
  afK
end
end Join
end Trn
