/- Part of SolidPlaces. -/
import Derived.Test.YtmjkpiakobnkgaaGreatDoorHa
import Derived.Test.YtmjkpiakobnkgaaGreatDoorTie
import Derived.Test.YtmjkpiakobnkgaaGreatDoorCards
import Derived.LaidMore
import Derived.OpenShut
import Derived.ProofKit
import Derived.Stop.LaidErr
set_option maxRecDepth 100000
set_option maxHeartbeats 20000000
set_option linter.all false
open Go Go.RowKit Go.Proofs Go.Proofs.Tryz
namespace Trn
namespace abc
section
open Go.ChangeShapes Go.WideShapes
noncomputable abbrev RW:=Go.Proofs.YtmjkpiakobnkgaaGreatDoor.Rows.solidPlacesRow
noncomputable abbrev SP:=Go.Proofs.YtmjkpiakobnkgaaGreatDoor.Rows.solidPlacesSpec
theorem own:ownKnob Tryz.prog.godebug=none:=A6
theorem laidOut:laidOutB Tryz.prog=true:=A6
theorem akU(os:Os)(args:B9 AW):laidMetH Tryz.prog RW.laid ((World.doorLaid Tryz.prog 62 os).forCall (λ_ _=>0) ⟨#[],args,[]⟩).memory:=laidMetH_of_parts3 (fuel:=8) (laidMet_of_run' 8 A6 A6) A6 A6
theorem amZ(P:Bz)(c:OpenClaim)(h:P.funcs.any Func.goes=false)(b:c.start= .entering):false=c.goesBy P:=by
 have key:∀f,P.goes f=false:=by
  intro f;unfold Program.goes;rw[h,Y3,Y2];rw[Un];intro g i;cases d:P.funcs[g]? with
  |none=>simp
  |some fn=>obtain⟨a,rfl⟩:=QP.1 d;have:=Array.any_eq_false.1 h g a;simpa using this
 have e:∀s,P.goesFrom s=false:=λs=>by unfold Program.goesFrom;cases P.funcNamed s with|none=>rfl|some f=>exact key f
 unfold OpenClaim.goesBy Program.goesAt;rw[e,b];rfl
theorem amn:false=RW.goesBy Tryz.prog:=amZ _ _ A6 rfl
theorem aj6{P:Bz}{w:AS}{r:Reach}{a:Nat}{t:Ap}{v:AW}(b:P.underlying t=some .string)(h:Cell.okWide P w r a t v):∃l,v=Value.string ⟨(l:AA).toArray⟩:=by unfold Cell.okWide at h;rw[b] at h;unfold Cell.ok at h;rw[b] at h;cases v with|string s=>exact⟨s.data.toList,AO⟩|_=>simp at h
def rL:A9 TypeDesc->Bool
 |some (.struct _)=>true|some (.array _ _)=>true|_=>false
theorem ajI{P:Bz}{w:AS}{r:Reach}{a:Nat}{t s:Ap}{n:Nat}{v:AW}(f:rL (P.underlying t)=true)(k:P.underlying s=some .string)(m:P.cellTypes P.depth t=some (List.replicate n s))(o:P.cellsOf t=n)(q:0<n)(h:Value.okWide P w r a t v):∃cs:B9 AW,v= .agg cs/\cs.size=n/\∀(i:Nat) (c:AW),cs[i]? =some c->∃l,c=Value.string ⟨(l:AA).toArray⟩:=by
 have h:∃cs,v= .agg cs/\cs.size=P.cellsOf t/\Row.okWide P w r a t cs:=by
  unfold Value.okWide at h;split at h
  .exact h
  .exact h
  .rename_i h1 h2;unfold rL at f;split at f
   .rename_i h3;exact absurd h3<|h1 _
   .rename_i h3;exact absurd h3<|h2 _ _
   .cases f
 obtain⟨cs,e,g,x,b,_,d⟩:=h;rw[m] at b;cases b;refine⟨cs,e,g.trans o,λi c hi=>?_⟩;obtain⟨u,j,p⟩:=d i c hi;rw[Kd] at j;have:=(EP.1 j);obtain⟨_,e⟩:=this;rw[List.getElem_replicate] at e;subst e;exact aj6 k p
theorem anN{w:AS}{r:Reach}{e:Nat}{v:AW}{H:HV}{t:Ap}(g:rL (Tryz.prog.underlying t)=true)(i:Tryz.prog.cellTypes Tryz.prog.depth t=some (List.replicate 3 26))(j:Tryz.prog.cellsOf t=3)(k:Tryz.prog.underlying 26=some .string)(h:Value.okWide Tryz.prog w r e t v):∃x,(BQ x).ok H v:=by
 obtain⟨cs,rfl,f,d⟩:=ajI g k i j A4 h;obtain⟨l⟩:=cs
 match l,f with
 |[a,b,c],_=>obtain⟨x,rfl⟩:=d 0 a rfl;obtain⟨y,rfl⟩:=d 1 b rfl;obtain⟨z,rfl⟩:=d 2 c rfl;exact⟨(x,y,z),_,rfl,_,_,rfl,rfl,_,_,rfl,rfl,_,_,rfl,rfl,rfl⟩
def fg:A9 TypeDesc->Bool
 |some (.int _)=>false|some (.array 20 _)=>false|_=>true
theorem UQ{P:Bz}{T:Ap}{o:A9 Obj}(h:fg (P.underlying T)=true):Qb P T o:=by
 unfold Qb;split
 .rename_i hu;rw[hu] at h;cases h
 .rename_i hu;rw[hu] at h;cases h
 .trivial
theorem amq{w:AS}(B:w.ShapedOpen Tryz.prog)(A:laidMetH Tryz.prog RW.laid w.memory):JD Tryz.prog (λr=>w.heap[r]?):=by
 rw[MakeChecks.laidMetH_plain _ _ _ A6] at A;have b:=Lib.tabIs_of_head (name:= "internal/strconv.uint64pow10") (k:= .u64) (zs:=Lib.pow10Tab) (g:=5) (t:=396) (e:=272) (n:=20) A6 A6 A6 A6 A6 A6 A.tail.tail;have f:∃m E fr,w.heap[0]? =some (.cells #[.int .i64 m] E fr):=by
  obtain⟨cs,C,D,F⟩:=B.1 0 #[.int .i64 0] 3 (Aq A6) A6;obtain⟨J,i,_,j⟩:=F A6;have e:Tryz.prog.cellTypes Tryz.prog.depth 3=some [3]:=A6;rw[e] at i;cases i;obtain⟨l⟩:=cs
  match l,D with
  |[c],_=>
   obtain⟨u,s,q⟩:=j 0 c rfl;have s:u=3:=by simpa using s.symm
   subst s;have G:Tryz.prog.underlying 3=some (.int .i64):=A6;unfold Cell.ok at q;rw[G] at q;cases c with
   |int k m=>obtain⟨rfl,_⟩:=q;exact⟨m,_,_,C⟩
   |_=>simp at q
 have o:∃E fr,w.heap[5]? =some (.cells ah E fr):=by
  unfold Lib.TabIs World.var? at b;rw[show Tryz.prog.globalNamed "internal/strconv.uint64pow10" =some 5 by kernel_rfl] at b;have b:(match w.heap[5]? with|some (Obj.cells cs _ _)=>some cs|_=>none)=some ((Lib.pow10Tab.map λz=>Value.int .u64 z).toArray):=b;split at b
  .rename_i cs E fr h;have e:ah=(Lib.pow10Tab.map λz=>Value.int .u64 z).toArray:=A6;rw[e,<-E2 b];exact⟨E,fr,h⟩
  .cases b
 intro g T H;have d:Tryz.prog.globals.toList.map (·.type)=[3,303,303,303,303,396,405,406]:=A6;have p:(Tryz.prog.globals.toList.map (·.type))[g]? =some T:=by rw[Fp,NP];exact H
 rw[d] at p;have I:Tryz.prog.underlying 3=some (.int .i64):=A6;have a:fg (Tryz.prog.underlying 303)=true:=A6;have v:fg (Tryz.prog.underlying 405)=true:=A6;have x:fg (Tryz.prog.underlying 406)=true:=A6;have y:Tryz.prog.underlying 396=some (.array 20 272):=A6
 match g,p with|0,e=>cases e;unfold Qb;rw[I];exact f|1,e=>cases e;exact UQ a|2,e=>cases e;exact UQ a|3,e=>cases e;exact UQ a|4,e=>cases e;exact UQ a|5,e=>cases e;unfold Qb;rw[y];exact o|6,e=>cases e;exact UQ v|7,e=>cases e;exact UQ x|g+8,e=>simp at e
theorem uz{T:Type}{enc:Ap×AW->T}{P:Bz}{w:AS}{p:Nat}{g:Nat->Bool}{q:Bool}{α:Type}{f:α->Ty}{R:α->Prop}{t e:Ap}{k:Nat}
  (W:P.underlying t=some (.slice e))(U:P.cellsOf e=k)(X:0<k)(Y:∀x,(f x).n=k)
  (B:∀n cs y,DataW.trod enc P w p g q n e cs=some y->∃x u,R x/\u.cells.toList=cs/\(f x).ok (λr=>w.heap[r]?) u)
  (Z:Nat)(C:A3 AW)(y0:DataW T×A3 MemPlace)(hf:DataW.trod enc P w p g q Z t C=some y0):∃(x:A3 α) (u:AW),(∀y∈x,R y)/\u.cells.toList=C/\(TL f x).ok (λr=>w.heap[r]?) u:=by
 rcases DataW.trod_slice W hf with⟨e0,_⟩|⟨a,len,cap,elems,rest,n,_,e0,_,_,hl,_,hlen,hel,_,_⟩
 .exact⟨[],.slice none 0 0,λy i=>(by cases i),e0.symm,zTL⟩
 .have hw:0<len->a.spot=none/\∃cs E fr,w.heap[a.block]? =some (.cells cs E fr):=λd=>by
   have D:=hel 0 d;obtain⟨y,s⟩:∃y,elems[0]? =some y:=⟨_,FT A4⟩;rw[s,Option.bind_eq_some_iff] at D;obtain⟨F,h,_⟩:=D;rw[U] at h;obtain⟨_,c1,M⟩:=World.cells?_some h;have v:=M 0 X;rw[FT (show 0<F.length by omega)] at v;have e1:(a.add<|0*k).add 0=a:=by simp[Addr.add]
   rw[e1] at v;unfold World.cell? at v;split at v
   .rename_i c E fr G;refine⟨?_,c,E,fr,G⟩;cases H:a.spot with|none=>rfl|some z=>rw[H] at v;cases v
   .cases v
  have N:len=0\/0<len:=A4;rcases N with rfl|d
  .exact⟨[],.slice (some a) 0 cap,λy i=>(by cases i),e0.symm,⟨some a,cap,rfl,hl,λA=>absurd rfl A⟩⟩
  obtain⟨H,cs,E,fr,G⟩:=hw d;have I:∀j,w.cell? (a.add j)=cs[a.off+j]? :=λj=>by
   unfold World.cell? Addr.add;by_cases d:j=0
   .subst d;simp[G,H]
   .simp[d,G]
  have J:∀m,m<=len->∃l:A3 α,l.length=m/\Cx (λr=>w.heap[r]?) (lT f l) ((cs.toList.drop a.off).take<|m*k)/\(∀y∈l,R y)/\(0<m->a.off+m*k<=cs.size):=by
   intro m
   induction m with
   |zero=>intro _;exact⟨[],rfl,by simp[lT,Cx],AO,A4⟩
   |succ m ih=>
    intro hm;obtain⟨l,l1,O,Q,V⟩:=ih A4;have D:=hel m A4;obtain⟨y,s⟩:∃y,elems[m]? =some y:=⟨_,FT A4⟩;rw[s,Option.bind_eq_some_iff] at D;obtain⟨F,h,S⟩:=D;rw[U] at h;obtain⟨_,c1,M⟩:=World.cells?_some h;obtain⟨x,u,hx,hu,IP⟩:=B _ _ _ S;have at_:∀j,j<k->cs[a.off+m*k+j]? =F[j]? :=λj K=>by
     rw[<-M j K];have:(a.add<|m*k).add j=a.add (m*k+j):=by
      unfold Addr.add;by_cases d:j=0
      .subst d;simp
      .by_cases h1:m*k=0
       .simp[d,h1]
       .have h2:m*k+j≠0:=A4;simp[d,h1,h2,Iw]
     rw[this,I];congr 1;omega
    have le:a.off+(m+1)*k<=cs.size:=by have:=at_ (k-1) A4;rw[FT (show k-1<F.length by omega)] at this;obtain⟨hlt,_⟩:=QP.1 this;rw[QE];omega
    have take:(cs.toList.drop<|a.off+m*k).take k=F:=by
     apply Ul;intro j;by_cases K:j<k
     .rw[List.getElem?_take_of_lt K,SK,NP,at_ j K]
     .rw[List.getElem?_eq_none (by rw[Dd];omega),List.getElem?_eq_none A4]
    refine⟨l++[x],by simp[l1],?_,λy i=>?_,λ_=>?_⟩
    .rw[QE,List.take_add,Ee,take];show Cx _ ((l++[x]).map f) _;rw[I5];exact Pf O ⟨u,[],by rw[hu];simp,IP,rfl⟩
    .rcases Bi.1 i with i|i
     .exact Q y i
     .rw[CW.1 i];exact hx
    .exact le
  obtain⟨l,l1,O,Q,V⟩:=J len<|BJ _
  have L:(lT f l).length=len:=by rw[BL,l1]
  have cn:∀l:A3 α,C7 (lT f l)=l.length*k:=λl=>by induction l with|nil=>simp|cons x l ih=>show C7 (f x::lT f l)=_;rw[lH,ih,Y,DP,QE,N8]
  refine⟨l,.slice (some a) len cap,Q,e0.symm,some a,cap,by rw[L],by rw[L];exact hl,λA=>⟨a.block,a.off,cs,E,fr,?_,G,?_,?_⟩⟩
  .obtain⟨b,o,sp⟩:=a;dsimp only at H;rw[H]
  .rw[cn,l1];refine V<|Nat.pos_of_ne_zero λd=>A ?_
   rw[d] at L;exact Hk L
  .rw[cn,l1];exact O
theorem ajA{l:Type}{enc:Ap×AW->l}{P:Bz}{w:AS}{r:Reach}{b j:Nat}{a:Nat->Bool}{g:Bool}{α:Type}{f:α->Ty}{R:α->Prop}{t e:Ap}{k:Nat}{v:AW}{d:DataW l}{ps:A3 MemPlace}
  (m:P.underlying t=some (.slice e))(p:P.cellsOf e=k)(q:0<k)(s:∀x,(f x).n=k)
  (i:∀n cs y,DataW.trod enc P w b a g n e cs=some y->∃x u,R x/\u.cells.toList=cs/\(f x).ok (λr=>w.heap[r]?) u)
  (z:Value.okWide P w r j t v)(h:DataW.Trod enc P w b a g t v d ps):∃x:A3 α,(TL f x).ok (λr=>w.heap[r]?) v/\∀y∈x,R y:=by
 obtain⟨fuel,A⟩:=h;obtain⟨x,u,B,C,D⟩:=uz m p q s i _ _ _ A;obtain⟨a0,len,cap,rfl⟩:=okWide_slice m z;refine⟨x,?_,B⟩;obtain⟨o,c,rfl,E,F⟩:=D;have:[Value.slice o (lT f x).length c]=[Value.slice a0 len cap]:=C;cases this;exact⟨_,_,rfl,E,F⟩
theorem yf{t:Type}{enc:Ap×AW->t}{w:AS}{g:Nat}{f:Nat->Bool}{i:Bool}{e n3 s:Ap}{j k:Field}(D:Tryz.prog.underlying e=some (.struct #[j,k]))(v:j.type=n3/\j.offset=0)(A:k.type=s/\k.offset=3)
  (E:Tryz.prog.underlying n3=some (.array 3 3))(F:Tryz.prog.underlying s=some .string)(hi:Tryz.prog.underlying 3=some (.int .i64))(G:Tryz.prog.cellsOf n3=3)(H:Tryz.prog.cellsOf s=1)(I:Tryz.prog.cellsOf 3=1)(J:Tryz.prog.cellsOf e=4)
  (n:Nat)(cs:A3 AW)(y:DataW t×A3 MemPlace)(h:DataW.trod enc Tryz.prog w g f i n e cs=some y):∃x u,(Cd (x:BV).1.1/\Cd x.1.2.1/\Cd x.1.2.2)/\u.cells.toList=cs/\(Ai x).ok (λr=>w.heap[r]?) u:=by
 obtain⟨S,T,m,_,B,t0,C⟩:=trod_struct2 D h;rw[v.1,v.2,G] at t0;rw[A.1,A.2,H] at C;rw[J] at B
 match cs,B with
 |[c0,c1',c2,c3'],_=>
  obtain⟨z0,U,V,q,_,i0,K,L⟩:=trod_array3 E I t0;obtain⟨a,M,_,N⟩:=DataW.trod_int hi i0;obtain⟨b,O,_,P⟩:=DataW.trod_int hi K;obtain⟨c,Q,_,R⟩:=DataW.trod_int hi L;obtain⟨d,o,_,_⟩:=DataW.trod_string F C;cases M;cases O;cases Q;have o:c3'= .string d:=by simpa using o
  subst o;obtain⟨l⟩:=d;obtain⟨l⟩:=l;have p:∀{z:Int},(Lit.int .i64 z).wf=true->Cd z:=λh=>by simp only[Lit.wf,Bq,Um] at h;exact h
  refine⟨((a,b,c),l),.agg #[.int .i64 a,.int .i64 b,.int .i64 c,.string ⟨⟨l⟩⟩],⟨p N,p P,p R⟩,rfl,?_⟩;exact⟨_,rfl,.agg #[.int .i64 a,.int .i64 b,.int .i64 c],_,rfl,⟨_,rfl,_,_,rfl,rfl,_,_,rfl,rfl,_,_,rfl,rfl,rfl⟩,.string ⟨⟨l⟩⟩,_,rfl,rfl,rfl⟩
theorem amU{k:Type}{enc:Ap×AW->k}{w:AS}{r:Reach}{b f:Nat}{a:Nat->Bool}{c:Bool}{e n3 s:Ap}{g i:Field}{v:AW}{d:DataW k}{ps:A3 MemPlace}(l:Tryz.prog.underlying e=some (.struct #[g,i]))(n:g.type=n3/\g.offset=0)(o:i.type=s/\i.offset=3)
  (p:Tryz.prog.underlying n3=some (.array 3 3))(q:Tryz.prog.underlying s=some .string)(hi:Tryz.prog.underlying 3=some (.int .i64))(t:Tryz.prog.cellsOf n3=3)(y:Tryz.prog.cellsOf s=1)(z:Tryz.prog.cellsOf 3=1)(A:Tryz.prog.cellsOf e=4)
  (j:Value.okWide Tryz.prog w r f e v)(h:DataW.Trod enc Tryz.prog w b a c e v d ps):∃x:BV,(Ai x).ok (λr=>w.heap[r]?) v/\(Cd x.1.1/\Cd x.1.2.1/\Cd x.1.2.2):=by
 obtain⟨fuel,B⟩:=h;obtain⟨x,u,C,D,E⟩:=yf l n o p q hi t y z A _ _ _ B;have ag:∃cs,v= .agg cs:=by unfold Value.okWide at j;rw[l] at j;obtain⟨cs,e,_⟩:=j;exact⟨cs,e⟩
 obtain⟨cs,rfl⟩:=ag;obtain⟨m,rfl,F⟩:=E;have:m.toList=cs.toList:=D;have:m=cs:=Array.toList_inj.1 this;subst this;exact⟨x,⟨_,rfl,F⟩,C⟩
def Walk:Prop:=∀a b c r,TK a b c=some r-> @Dy DR.lax Tryz.prog 4 [(TL<|TL Ai) a,BQ b,Ai c] (.vs [Az r])
def Law:Prop:=∀c d a,(∀b∈c,∀h∈b,Cd h.1.1/\Cd h.1.2.1/\Cd h.1.2.2)->(Cd a.1.1/\Cd a.1.2.1/\Cd a.1.2.2)->TK c d a=some true
theorem lifted(T:Walk)(U:Law)(os:Os)(c:os.Started)(H:Type)(enc:Ap×AW->H):ReturnsInHanded {} Tryz.checked os 4 .any (λw args=>(SP.pre enc Tryz.prog Tryz.f4 [] false w args/\laidMetH Tryz.prog RW.laid w)/\sizedMet enc Tryz.prog Tryz.f4 (OpenSpec.ofChange SP) false w args)
   (SP.post enc Tryz.prog Tryz.f4 false true false false):=by
 refine returnsInHanded_of_calls (C:=Tryz.checked) own c A6
  (ChangeSpec.witness_shaped (enc:=enc) (C:=Tryz.checked) (os:=os) (X:=λw _=>laidMetH Tryz.prog RW.laid w) false (World.doorLaid Tryz.prog 62 os) #[.slice none 0 0,.agg #[.string ⟨#[]⟩,.string ⟨#[]⟩,.string ⟨#[]⟩],.agg #[.int .i64 0,.int .i64 0,.int .i64 0,.string ⟨#[]⟩]] 8 rfl (World.shaped_of_RefB A6 A6) A6 A6 A6 (akU os _)) ?_
 intro w a i _ V _ Y u _;obtain⟨_,_,_,x,y,_,_,_,_,l⟩:=Y;have e:x=Tryz.f4:=E2<|y.symm.trans Tryz.func4
 subst e;obtain⟨⟨⟨ds,gs,n,Z,_⟩,hx⟩,_⟩:=u;have m:=DataW.Whole.of_heap (w':=w.forCall a i) (by rfl) Z;have d:=m;obtain⟨p,q,A,hV,rfl,hfz,Ow⟩:=m;have M:DataW.TrodAll enc Tryz.prog (w.forCall a i) 0 (λ_=>true) true Tryz.f4.params.toList i.args.toList ds p:=A;rw[Tryz.params4] at M l;obtain⟨v0,v1,B,d0,d1,d2,E,F,G,ea,rfl,rfl,N,h1,O⟩:=trodAll_three M;obtain⟨rfl,rfl⟩:=trodVars_none hV;rw[ea] at l d⊢;have gl:=amq V<|hx.of_heap rfl
 obtain⟨P,I,J⟩:=ajA (k:=1) (f:=TL Ai) (R:=λb=>∀h∈b,Cd h.1.1/\Cd h.1.2.1/\Cd h.1.2.2) Tryz.underlying23 A6 A4 (λ_=>rfl) (uz (k:=4) (f:=Ai) (R:=λh=>Cd h.1.1/\Cd h.1.2.1/\Cd h.1.2.2) Tryz.underlying59 A6 A4 (λ_=>rfl)<|yf (n3:=40) (s:=26) Tryz.underlying42 ⟨rfl,rfl⟩ ⟨rfl,rfl⟩ Tryz.underlying40 Tryz.underlying26 Tryz.underlying3 A6 A6 A6 A6) (l 0 23 v0 rfl rfl) N;obtain⟨Q,K⟩:=anN (H:=λr=>(w.forCall a i).heap[r]?) (t:=31) A6 A6 A6 Tryz.underlying26<|l 1 31 v1 rfl rfl
 obtain⟨S,L,YO⟩:=amU (n3:=40) (s:=26) Tryz.underlying42 ⟨rfl,rfl⟩ ⟨rfl,rfl⟩ Tryz.underlying40 Tryz.underlying26 Tryz.underlying3 A6 A6 A6 A6 (l 2 42 B rfl rfl) O;have hc:=Dy.run (D:=DR.lax) (T P Q S true<|U P Q S J YO) (w.forCall a i) (λr=>(w.forCall a i).heap[r]?) [v0,v1,B] (λ_ _ h=>h) gl ⟨v0,_,rfl,I,v1,_,rfl,K,B,_,rfl,L,rfl⟩;refine hc.mono λe W' ⟨v,he,o,_,_,_,hr⟩=>?_
 subst he;have hv:v= .bool true:=hr;subst hv;have g:∀z∈E++F++G,z.block<(w.forCall a i).heap.size:=λz j=>by simpa using d.lt z (by simpa using j)
 refine ChangeSpec.post_blind (W:=w.forCall a i) ⟨[d0,d1,d2],[],E++F++G++[],[],E++F++G,[],d,?_,?_,rfl,o.toBelow.frame _,λh=>by cases h⟩
 .exact trodAll_mk1<|shut_bool Tryz.underlying4 true
 .rw[Tryz.params4];rw[Fz];exact trodAll_mk3 (Below.trod laidOut A6 (Aq A6) N o.toBelow<|λz j=>g z<|Fq _<|Fq _ j) (Below.trod laidOut A6 (Aq A6) h1 o.toBelow<|λz j=>g z<|Fq _<|QN _ j)<|Below.trod laidOut A6 (Aq A6) O o.toBelow<|λz j=>g z<|QN _ j
theorem Ey{a b:Bool}(h:a=true)(k:b=true):(a&&b)=true:=by subst h;subst k;rfl
theorem k1:RW.wf (OpenSpec.ofChange SP)=true:=A6
theorem k3:mapsRowed Tryz.prog=true:=A6
theorem k5:namedTie Tryz.prog RW.named SP.vars=true:=A6
theorem HN:(RW.inPlace==Tryz.prog.inPlace 4)=true:=A6
theorem Kp:(RW.unfollowed==Tryz.prog.unfollowed 4)=true:=A6
theorem G6:(RW.recurses==Tryz.prog.recurses 4)=true:=A6
theorem k13:(RW.named==Tryz.prog.varsNamed 4)=true:=A6
theorem k23:(RW.plainKeys==Tryz.prog.plainKeys)=true:=A6
theorem k25:Tryz.prog.stopsHeard=true:=A6
theorem k26:Tryz.prog.mayEnter=true:=A6
theorem k27:(RW.lifted==Tryz.prog.liftsFinal)=true:=A6
theorem Im:(Tryz.prog.make==some RW.make)=true:=A6
theorem aoG:joinedFacts Tryz.prog 4 Tryz.f4 SP RW=true:=Ey (Ey (Ey (Ey (Ey (Ey (Ey (Ey (Ey (Ey (Ey (Ey (Ey (Ey (Ey (Ey (Ey (Ey (Ey (Ey (Ey (Ey (Ey (Ey (Ey (Ey (Ey (Ey (Ey (Ey (Ey k1 laidOut) k3) A6) k5) A6) A6) A6) A6) HN) Kp) G6) k13) A6) A6) A6) A6) A6) A6) A6) A6) A6) k23) A6) k25) k26) k27) Im) A6) A6) A6) A6
theorem aal:Tryz.prog.funcNamed "trunnel/trunnellaw02.SolidPlaces" =some 4:=A6
theorem ahs(b:Walk)(c:Law):Go.Proofs.YtmjkpiakobnkgaaGreatDoor.Rows.SolidPlacesSaid:=
 OpenClaim.holds_of_wide 4 Tryz.f4 rfl rfl rfl rfl rfl rfl rfl ⟨rfl,rfl,rfl,rfl,rfl⟩ rfl rfl rfl rfl rfl aal Tryz.func4 aoG
  (Aq A6) (by unfold Func.isWrapper;first|(rw[if_pos (by decide+kernel)];kernel_rfl)|(rw[if_neg (by decide+kernel)];exact⟨rfl,rfl⟩))
  (λos a H enc _=>lifted b c os a H enc)
theorem agr(d:Walk)(e:Law):Go.Proofs.YtmjkpiakobnkgaaGreatDoor.Rows.SolidPlacesCardSaid:=
 Claim7.holds_tied_plain_at .later [] [.data,.data,.data,.sentinel,.sentinel] true (true,"95c4940e31584a041e05105d3722094a9c06c80b5e1c884fb12e62def86147ad") true
  (ahs d e) (λ_ h=>by cases h) A6 (λ_ h=>by cases h) Go.Proofs.YtmjkpiakobnkgaaGreatDoor.solidPlaces_row_tie rfl ⟨rfl,rfl⟩ A6 rfl
  (λf fn g b=>by
   obtain rfl:f=4:=E2 (aal.symm.trans g)|>.symm
   obtain rfl:fn=Tryz.f4:=(E2<|Tryz.func4.symm.trans b).symm;exact⟨A6,λj t c=>by
    rw[Tryz.params4] at c;have i:t∈[23,31,42]:=by simpa using Array.mem_of_getElem? c
    have a:([23,31,42].all λu=> !Tryz.prog.wantsStandIn u)=true:=A6;exact(show Tryz.prog.wantsStandIn t=false by simpa using DC.1 a t i)⟩)
  amn
end
end abc
end Trn
