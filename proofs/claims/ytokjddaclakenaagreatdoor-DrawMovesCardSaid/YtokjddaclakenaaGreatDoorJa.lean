/-
  Part of the proof of DrawMoves.
-/
import Derived.Test.YtokjddaclakenaaGreatDoorHc
import Derived.Test.YtokjddaclakenaaGreatDoorTie
import Derived.Test.YtokjddaclakenaaGreatDoorCards
import Derived.LaidMore
import Derived.OpenShut
import Derived.ProofKit
import Derived.Stop.LaidErr
set_option maxRecDepth 100000
set_option maxHeartbeats 20000000
set_option linter.all false
open Go Go.RowKit Go.Proofs Go.Proofs.Tryz
namespace Trn
namespace Join
section
open Go.ChangeShapes Go.WideShapes
noncomputable abbrev RW:=Go.Proofs.YtokjddaclakenaaGreatDoor.Rows.drawMovesRow
noncomputable abbrev SP:=Go.Proofs.YtokjddaclakenaaGreatDoor.Rows.drawMovesSpec
theorem own:ownKnob Tryz.prog.godebug=none:=ax
theorem laidOut:laidOutB Tryz.prog=true:=ax
theorem ad0(os:Os)(args:auA aq6):laidMetH Tryz.prog RW.laid ((World.doorLaid Tryz.prog 62 os).forCall (fun _ _=>0) ⟨#[],args,[]⟩).memory:=
 laidMetH_of_parts3 (fuel:=8) (laidMet_of_run' 8 ax ax) ax ax
theorem agS(P:ast)(c:OpenClaim)(h:P.funcs.any Func.goes=false)(hs:c.start= .entering):false=c.goesBy P:=by
 have key:∀f,P.goes f=false:=by
  intro f;unfold Program.goes;rw[h,yE,Bool.or_false];rw[List.any_eq_false];intro g hg;cases hf:P.funcs[g]? with
  |none=>simp
  |some fn=>
   obtain⟨hlt,rfl⟩:=zO.1 hf;have:=Array.any_eq_false.1 h g hlt;simpa using this
 have h2:∀s,P.goesFrom s=false:=fun s=>by
  unfold Program.goesFrom;cases P.funcNamed s with
  |none=>rfl
  |some f=>exact key f
 unfold OpenClaim.goesBy Program.goesAt;rw[h2,hs];rfl
theorem agT:false=RW.goesBy Tryz.prog:=agS _ _ ax rfl
theorem abL{P:ast}{w:aq5}{r:Reach}{base:Nat}{t:asr}{v:aq6}(ht:P.underlying t=some .string)(h:Cell.okWide P w r base t v):∃l,v=Value.string ⟨(l:aev).toArray⟩:=by
 unfold Cell.okWide at h;rw[ht] at h;unfold Cell.ok at h;rw[ht] at h;cases v with
 |string s=>exact⟨s.data.toList,by simp⟩
 |_=>simp at h
def aeq:auz TypeDesc->Bool
 |some (.struct _)=>true
 |some (.array _ _)=>true
 |_=>false
theorem Od{P:ast}{w:aq5}{r:Reach}{base:Nat}{t s:asr}{n:Nat}{v:aq6}(ht:aeq (P.underlying t)=true)(hs:P.underlying s=some .string)(hc:P.cellTypes P.depth t=some (List.replicate n s))(hn:P.cellsOf t=n)(h0:0<n)(h:Value.okWide P w r base t v):
  ∃cs:auA aq6,v= .agg cs/\cs.size=n/\∀(i:Nat) (c:aq6),cs[i]? =some c->∃l,c=Value.string ⟨(l:aev).toArray⟩:=by
 have h:∃cs,v= .agg cs/\cs.size=P.cellsOf t/\Row.okWide P w r base t cs:=by
  unfold Value.okWide at h;split at h
  ·exact h
  ·exact h
  ·rename_i h1 h2;unfold aeq at ht;split at ht
   ·rename_i h3;exact absurd h3<|h1 _
   ·rename_i h3;exact absurd h3<|h2 _ _
   ·cases ht
 obtain⟨cs,e,hsz,ts,hts,_,hall⟩:=h;rw[hc] at hts;cases hts;refine⟨cs,e,hsz.trans hn,fun i c hi=>?_⟩;obtain⟨u,hu,gS⟩:=hall i c hi;rw[vW] at hu;have:=(jk.1 hu);obtain⟨_,e⟩:=this;rw[List.getElem_replicate] at e;subst e;exact abL hs gS
theorem aia{w:aq5}{r:Reach}{base:Nat}{v:aq6}{H:HV}{t:asr}(ht:aeq (Tryz.prog.underlying t)=true)(hc:Tryz.prog.cellTypes Tryz.prog.depth t=some (List.replicate 3 22))(hn:Tryz.prog.cellsOf t=3)(hs:Tryz.prog.underlying 22=some .string)(h:Value.okWide Tryz.prog w r base t v):∃x,(aR x).ok H v:=by
 obtain⟨cs,rfl,hsz,hall⟩:=Od ht hs hc hn (by omega) h;obtain⟨l⟩:=cs
 match l,hsz with
 |[a,b,c],_=>
  obtain⟨x,rfl⟩:=hall 0 a rfl;obtain⟨y,rfl⟩:=hall 1 b rfl;obtain⟨z,rfl⟩:=hall 2 c rfl;exact⟨(x,y,z),_,rfl,_,_,rfl,rfl,_,_,rfl,rfl,_,_,rfl,rfl,rfl⟩
theorem afc{w:aq5}{r:Reach}{base:Nat}{v:aq6}{H:HV}{t:asr}(ht:aeq (Tryz.prog.underlying t)=true)(hc:Tryz.prog.cellTypes Tryz.prog.depth t=some (List.replicate 9 22))(hn:Tryz.prog.cellsOf t=9)(hs:Tryz.prog.underlying 22=some .string)(h:Value.okWide Tryz.prog w r base t v):∃x,(cn x).ok H v:=by
 obtain⟨cs,rfl,hsz,hall⟩:=Od ht hs hc hn (by omega) h;obtain⟨l⟩:=cs
 match l,hsz with
 |[a,b,c,d,e,f,g,h,i],_=>
  obtain⟨a,rfl⟩:=hall 0 a rfl;obtain⟨b,rfl⟩:=hall 1 b rfl;obtain⟨c,rfl⟩:=hall 2 c rfl;obtain⟨d,rfl⟩:=hall 3 d rfl;obtain⟨e,rfl⟩:=hall 4 e rfl;obtain⟨f,rfl⟩:=hall 5 f rfl;obtain⟨g,rfl⟩:=hall 6 g rfl;obtain⟨h,rfl⟩:=hall 7 h rfl;obtain⟨i,rfl⟩:=hall 8 i rfl;refine⟨((a,b,c),(d,e,f),(g,h,i)),_,rfl,.agg #[.string ⟨a.toArray⟩,.string ⟨b.toArray⟩,.string ⟨c.toArray⟩],_,rfl,⟨_,rfl,_,_,rfl,rfl,_,_,rfl,rfl,_,_,rfl,rfl,rfl⟩,.agg #[.string ⟨d.toArray⟩,.string ⟨e.toArray⟩,.string ⟨f.toArray⟩],_,rfl,⟨_,rfl,_,_,rfl,rfl,_,_,rfl,rfl,_,_,rfl,rfl,rfl⟩,.agg #[.string ⟨g.toArray⟩,.string ⟨h.toArray⟩,.string ⟨i.toArray⟩],_,rfl,⟨_,rfl,_,_,rfl,rfl,_,_,rfl,rfl,_,_,rfl,rfl,rfl⟩,rfl⟩
theorem adJ{w:aq5}{r:Reach}{base:Nat}{v:aq6}{H:HV}{t:asr}(ht:aeq (Tryz.prog.underlying t)=true)(hc:Tryz.prog.cellTypes Tryz.prog.depth t=some (List.replicate 12 22))(hn:Tryz.prog.cellsOf t=12)(hs:Tryz.prog.underlying 22=some .string)(h:Value.okWide Tryz.prog w r base t v):∃x,(iE x).ok H v:=by
 obtain⟨cs,rfl,hsz,hall⟩:=Od ht hs hc hn (by omega) h;obtain⟨l⟩:=cs
 match l,hsz with
 |[a,b,c,d,e,f,g,h,i,j,k,l],_=>
  obtain⟨a,rfl⟩:=hall 0 a rfl;obtain⟨b,rfl⟩:=hall 1 b rfl;obtain⟨c,rfl⟩:=hall 2 c rfl;obtain⟨d,rfl⟩:=hall 3 d rfl;obtain⟨e,rfl⟩:=hall 4 e rfl;obtain⟨f,rfl⟩:=hall 5 f rfl;obtain⟨g,rfl⟩:=hall 6 g rfl;obtain⟨h,rfl⟩:=hall 7 h rfl;obtain⟨i,rfl⟩:=hall 8 i rfl;obtain⟨j,rfl⟩:=hall 9 j rfl;obtain⟨k,rfl⟩:=hall 10 k rfl;obtain⟨l,rfl⟩:=hall 11 l rfl;refine⟨((a,b,c),(d,e,f),(g,h,i),(j,k,l)),_,rfl,.agg #[.string ⟨a.toArray⟩,.string ⟨b.toArray⟩,.string ⟨c.toArray⟩],_,rfl,⟨_,rfl,_,_,rfl,rfl,_,_,rfl,rfl,_,_,rfl,rfl,rfl⟩,.agg #[.string ⟨d.toArray⟩,.string ⟨e.toArray⟩,.string ⟨f.toArray⟩],_,rfl,⟨_,rfl,_,_,rfl,rfl,_,_,rfl,rfl,_,_,rfl,rfl,rfl⟩,.agg #[.string ⟨g.toArray⟩,.string ⟨h.toArray⟩,.string ⟨i.toArray⟩],_,rfl,⟨_,rfl,_,_,rfl,rfl,_,_,rfl,rfl,_,_,rfl,rfl,rfl⟩,.agg #[.string ⟨j.toArray⟩,.string ⟨k.toArray⟩,.string ⟨l.toArray⟩],_,rfl,⟨_,rfl,_,_,rfl,rfl,_,_,rfl,rfl,_,_,rfl,rfl,rfl⟩,rfl⟩
def Kz:auz TypeDesc->Bool
 |some (.int _)=>false
 |some (.array 20 _)=>false
 |_=>true
theorem xd{P:ast}{T:asr}{o:auz Obj}(h:Kz (P.underlying T)=true):Fa P T o:=by
 unfold Fa;split
 ·rename_i hu;rw[hu] at h;cases h
 ·rename_i hu;rw[hu] at h;cases h
 ·trivial
theorem agU{w:aq5}(oY:w.ShapedOpen Tryz.prog)(hL:laidMetH Tryz.prog RW.laid w.memory):qn Tryz.prog (fun r=>w.heap[r]?):=by
 rw[MakeChecks.laidMetH_plain _ _ _ ax] at hL;have hT:=Lib.tabIs_of_head (name:= "internal/strconv.uint64pow10") (k:= .u64) (zs:=Lib.pow10Tab) (g:=7) (t:=507) (e:=361) (n:=20) ax ax ax ax ax ax hL.tail.tail;have hint:∃m E fr,w.heap[0]? =some (.cells #[.int .i64 m] E fr):=by
  obtain⟨cs,h1,h2,h3⟩:=oY.1 0 #[.int .i64 0] 3 (bg ax) ax;obtain⟨ts,hts,_,hall⟩:=h3 ax;have e:Tryz.prog.cellTypes Tryz.prog.depth 3=some [3]:=ax;rw[e] at hts;cases hts;obtain⟨l⟩:=cs
  match l,h2 with
  |[c],_=>
   obtain⟨u,hu,gS⟩:=hall 0 c rfl;have hu:u=3:=by simpa using hu.symm
   subst hu;have ht:Tryz.prog.underlying 3=some (.int .i64):=ax;unfold Cell.ok at gS;rw[ht] at gS;cases c with
   |int k m=>
    obtain⟨rfl,_⟩:=gS;exact⟨m,_,_,h1⟩
   |_=>simp at gS
 have htab:∃E fr,w.heap[7]? =some (.cells Ck E fr):=by
  unfold Lib.TabIs World.var? at hT;rw[show Tryz.prog.globalNamed "internal/strconv.uint64pow10" =some 7 by kernel_rfl] at hT;have hT:(match w.heap[7]? with|some (Obj.cells cs _ _)=>some cs|_=>none)=some ((Lib.pow10Tab.map fun z=>Value.int .u64 z).toArray):=hT;split at hT
  ·rename_i cs E fr h;have e:Ck=(Lib.pow10Tab.map fun z=>Value.int .u64 z).toArray:=ax;rw[e,<-fG hT];exact⟨E,fr,h⟩
  ·cases hT
 intro g T hg;have types:Tryz.prog.globals.toList.map (·.type)=[3,135,135,135,135,475,478,507,521,522]:=ax;have hg':(Tryz.prog.globals.toList.map (·.type))[g]? =some T:=by
  rw[nS,vX];exact hg
 rw[types] at hg';have u3:Tryz.prog.underlying 3=some (.int .i64):=ax;have afd:Kz (Tryz.prog.underlying 135)=true:=ax;have aol:Kz (Tryz.prog.underlying 475)=true:=ax;have aok:Kz (Tryz.prog.underlying 478)=true:=ax;have aoi:Kz (Tryz.prog.underlying 521)=true:=ax;have aoh:Kz (Tryz.prog.underlying 522)=true:=ax;have aoj:Tryz.prog.underlying 507=some (.array 20 361):=ax
 match g,hg' with
 |0,e=>cases e;unfold Fa;rw[u3];exact hint
 |1,e=>cases e;exact xd afd
 |2,e=>cases e;exact xd afd
 |3,e=>cases e;exact xd afd
 |4,e=>cases e;exact xd afd
 |5,e=>cases e;exact xd aol
 |6,e=>cases e;exact xd aok
 |7,e=>cases e;unfold Fa;rw[aoj];exact htab
 |8,e=>cases e;exact xd aoi
 |9,e=>cases e;exact xd aoh
 |g+10,e=>simp at e
def Walk:Prop:=∀x0 x1 x2 r,kZ x0 x1 x2=some r-> @fC DR.lax Tryz.prog 3 [cn x0,iE x1,aR x2] (.vs [aZ r])
def Law:Prop:=∀x0 x1 x2,kZ x0 x1 x2=some true
theorem lifted(hw:Walk)(hl:Law)(os:Os)(started:os.Started)(H:Type)(enc:asr×aq6->H):
  ReturnsInHanded {} Tryz.checked os 3 .any (fun w args=>(SP.pre enc Tryz.prog Tryz.f3 [] false w args/\laidMetH Tryz.prog RW.laid w)/\sizedMet enc Tryz.prog Tryz.f3 (OpenSpec.ofChange SP) false w args)
   (SP.post enc Tryz.prog Tryz.f3 false true false false):=by
 refine returnsInHanded_of_calls (C:=Tryz.checked) own started ax
  (ChangeSpec.witness_shaped (enc:=enc) (C:=Tryz.checked) (os:=os) (X:=fun w _=>laidMetH Tryz.prog RW.laid w) false (World.doorLaid Tryz.prog 62 os) #[.agg #[.string ⟨#[]⟩,.string ⟨#[]⟩,.string ⟨#[]⟩,.string ⟨#[]⟩,.string ⟨#[]⟩,.string ⟨#[]⟩,.string ⟨#[]⟩,.string ⟨#[]⟩,.string ⟨#[]⟩],.agg #[.string ⟨#[]⟩,.string ⟨#[]⟩,.string ⟨#[]⟩,.string ⟨#[]⟩,.string ⟨#[]⟩,.string ⟨#[]⟩,.string ⟨#[]⟩,.string ⟨#[]⟩,.string ⟨#[]⟩,.string ⟨#[]⟩,.string ⟨#[]⟩,.string ⟨#[]⟩],.agg #[.string ⟨#[]⟩,.string ⟨#[]⟩,.string ⟨#[]⟩]] 8 rfl (World.shaped_of_RefB ax ax) ax ax ax (ad0 os _)) ?_
 intro w tape i _ oY _ gS OT _;obtain⟨_,_,_,fn',apz,_,_,_,_,EL⟩:=gS;have e:fn'=Tryz.f3:=fG<|apz.symm.trans Tryz.func3
 subst e;obtain⟨⟨⟨ds,gs,before,hW,_⟩,hx⟩,_⟩:=OT;have hW':=DataW.Whole.of_heap (w':=w.forCall tape i) (by rfl) hW;have hWk:=hW';obtain⟨p,q,hA0,hV,rfl,hfz,Rf⟩:=hW';have hA:DataW.TrodAll enc Tryz.prog (w.forCall tape i) 0 (fun _=>true) true Tryz.f3.params.toList i.args.toList ds p:=hA0;rw[Tryz.params3] at hA EL;obtain⟨v0,v1,v2,d0,d1,d2,p0,p1,p2,ea,rfl,rfl,h0,h1,h2⟩:=trodAll_three hA;obtain⟨rfl,rfl⟩:=trodVars_none hV;rw[ea] at EL hWk⊢;have gl:=agU oY<|hx.of_heap rfl
 obtain⟨x0,VR⟩:=afc (H:=fun r=>(w.forCall tape i).heap[r]?) (t:=26) ax ax ax Tryz.underlying22<|EL 0 26 v0 rfl rfl
 obtain⟨x1,hx1⟩:=adJ (H:=fun r=>(w.forCall tape i).heap[r]?) (t:=28) ax ax ax Tryz.underlying22<|EL 1 28 v1 rfl rfl
 obtain⟨x2,hx2⟩:=aia (H:=fun r=>(w.forCall tape i).heap[r]?) (t:=24) ax ax ax Tryz.underlying22<|EL 2 24 v2 rfl rfl
 have hc:=fC.run (D:=DR.lax) (hw x0 x1 x2 true<|hl x0 x1 x2) (w.forCall tape i) (fun r=>(w.forCall tape i).heap[r]?) [v0,v1,v2] (fun _ _ h=>h) gl ⟨v0,_,rfl,VR,v1,_,rfl,hx1,v2,_,rfl,hx2,rfl⟩;refine hc.mono fun e W' ⟨v,he,hb,_,_,_,hr⟩=>?_
 subst he;have hv:v= .bool true:=hr;subst hv;have hlt:∀z∈p0++p1++p2,z.block<(w.forCall tape i).heap.size:=fun z hz=>by simpa using hWk.lt z (by simpa using hz)
 refine ChangeSpec.post_blind (W:=w.forCall tape i) ⟨[d0,d1,d2],[],p0++p1++p2++[],[],p0++p1++p2,[],hWk,?_,?_,rfl,hb.toBelow.frame _,fun h=>by cases h⟩
 ·exact trodAll_mk1<|shut_bool Tryz.underlying4 true
 ·rw[Tryz.params3];rw[rq];exact trodAll_mk3 (Below.trod laidOut ax (bg ax) h0 hb.toBelow<|fun z hz=>hlt z<|AI _<|AI _ hz) (Below.trod laidOut ax (bg ax) h1 hb.toBelow<|fun z hz=>hlt z<|AI _<|CD _ hz)<|Below.trod laidOut ax (bg ax) h2 hb.toBelow<|fun z hz=>hlt z<|CD _ hz
theorem sZ{a b:Bool}(h:a=true)(k:b=true):(a&&b)=true:=by subst h;subst k;rfl
theorem k1:RW.wf (OpenSpec.ofChange SP)=true:=ax
theorem k3:mapsRowed Tryz.prog=true:=ax
theorem k5:namedTie Tryz.prog RW.named SP.vars=true:=ax
theorem PN:(RW.inPlace==Tryz.prog.inPlace 3)=true:=ax
theorem k11:(RW.unfollowed==Tryz.prog.unfollowed 3)=true:=ax
theorem JD:(RW.recurses==Tryz.prog.recurses 3)=true:=ax
theorem k13:(RW.named==Tryz.prog.varsNamed 3)=true:=ax
theorem k23:(RW.plainKeys==Tryz.prog.plainKeys)=true:=ax
theorem k25:Tryz.prog.stopsHeard=true:=ax
theorem OO:Tryz.prog.mayEnter=true:=ax
theorem WN:(RW.lifted==Tryz.prog.liftsFinal)=true:=ax
theorem YC:(Tryz.prog.make==some RW.make)=true:=ax
theorem aiY:joinedFacts Tryz.prog 3 Tryz.f3 SP RW=true:=
 sZ (sZ (sZ (sZ (sZ (sZ (sZ (sZ (sZ (sZ (sZ (sZ (sZ (sZ (sZ (sZ (sZ (sZ (sZ (sZ (sZ (sZ (sZ (sZ (sZ (sZ (sZ (sZ (sZ (sZ (sZ k1 laidOut) k3) ax) k5) ax) ax) ax) ax) PN) k11) JD) k13) ax) ax) ax) ax) ax) ax) ax) ax) ax) k23) ax) k25) OO) WN) YC) ax) ax) ax) ax
theorem ahz:Tryz.prog.funcNamed "trunnel/trunnellaw09.DrawMoves" =some 3:=ax
theorem ZY(hw:Walk)(hl:Law):Go.Proofs.YtokjddaclakenaaGreatDoor.Rows.DrawMovesSaid:=
 OpenClaim.holds_of_wide 3 Tryz.f3 rfl rfl rfl rfl rfl rfl rfl ⟨rfl,rfl,rfl,rfl,rfl⟩ rfl rfl rfl rfl rfl ahz Tryz.func3 aiY
  (bg ax) (by unfold Func.isWrapper;first|(rw[if_pos (by decide+kernel)];kernel_rfl)|(rw[if_neg (by decide+kernel)];exact⟨rfl,rfl⟩))
  (fun os started H enc _=>lifted hw hl os started H enc)
theorem Xy(hw:Walk)(hl:Law):Go.Proofs.YtokjddaclakenaaGreatDoor.Rows.DrawMovesCardSaid:=
 Claim7.holds_tied_plain_at .later [] [.data,.data,.data,.sentinel,.sentinel] true (true,"30995ea889a7d55a7c4ca0a8d4e13150c74ac14458d28f88dba5f7cc8ef1936b") true
  (ZY hw hl) (fun _ h=>by cases h) ax (fun _ h=>by cases h) Go.Proofs.YtokjddaclakenaaGreatDoor.drawMoves_row_tie rfl ⟨rfl,rfl⟩ ax rfl
  (fun f fn hf hfn=>by
   obtain rfl:f=3:=fG (ahz.symm.trans hf)|>.symm
   obtain rfl:fn=Tryz.f3:=(fG<|Tryz.func3.symm.trans hfn).symm;exact⟨ax,fun j t ht=>by
    rw[Tryz.params3] at ht;have hm:t∈[26,28,24]:=by simpa using Array.mem_of_getElem? ht
    have hall:([26,28,24].all fun u=> !Tryz.prog.wantsStandIn u)=true:=ax;exact(show Tryz.prog.wantsStandIn t=false by simpa using dC.1 hall t hm)⟩)
  agT
end
end Join
end Trn
