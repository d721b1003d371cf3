/-
  Part of the proof of DrawMoves.
-/
import Derived.Test.YtokjddaclakenaaGreatDoorEc
set_option maxRecDepth 100000
set_option maxHeartbeats 20000000
set_option linter.all false
open Go Go.RowKit Go.Proofs
namespace Trn
section
variable[D:DR]
variable{P:Program}{w0:an P}{H0:HV}{N:Nat}{ops:Array Oper}{Q:Exit->Act->World->Prop}{Γ ay:Ctx}{d:Option Tmp}{ty:TypeId}{pos:String}{af:Array Edge}{g:Option (Nat×Bool)}
variable{α:Type}{f:α->Ty}{l:asv α}{p t j:Nat}{T E:asr}{sz:Nat}{pre post:asv aq6}{x:asu}{y z:α}
def XW{dz:Ctx}(bY:∀q∈dz,q∈Γ)(hf:∀z,(f z).n=sz)(hp:look dz p=some (.J8 t j sz))(ht:look dz t=some (.pb E pre post<|lT f l))(h:l[j]? =some z)(hx:Arg dz x (f y))(hT:eG P T (f y).n (f y).agg=true):
  Step P N ops ⟨none,.store T (.tmp p) x,ty,pos,af,none⟩ Γ ((t,.pb E pre post<|lT f<|l.set j y)::bQ t Γ):=by
 intro w0 H0 a w H df K Q k;simp only[Region.wanted,if_true];obtain⟨b,c,cur,xs,e,hb,Hs,ho,hH,hB⟩:=df.holds _ (bY _<|az ht);obtain⟨b',o,n',c',e1,e2⟩:=df.holds _ (bY _<|az hp);simp only at e e1 e2;rw[e] at e1;cases e1;have hj:(lT f l)[j]? =some (f z):=by rw[nS,h];rfl
 have PQ:=(jk.1 hj).1;have hu:HR sz (lT f l):=mD hf l;have ep:a.eval (.tmp p)= .pointer (some ⟨b,pre.length+j*sz,none⟩):=e2;have GR:=hx.ok<|df.weaken bY
 have oY:=(f y).shape GR;have hc:dm ((lT f l).take j)=j*sz:=by rw[iC<|hu.take _,List.length_take,fW (by omega)]
 obtain⟨p1,_⟩:=oR ho hj;rw[hc,hf] at p1;have uW:=Cv ho hj ((hf y).trans (hf z).symm) GR;rw[hc,hf] at uW;have OR:cur.size=pre.length+(xs.length+post.length):=by rw[<-gN,Hs];simp
 have qQ:=l9 (P:=P) (off:=pre.length+j*sz) (BZ hT) oY.size hb (by rw[hf];omega) oY.cell;rw[hf] at qQ;unfold Oper.wp;have er:(execOp a.eval ⟨none,.store T (.tmp p) x,ty,pos,af,none⟩).run P w= .ok .skip (w.setRow b (cur.toList.take (pre.length+j*sz)++(a.eval x).cells.toList++cur.toList.drop (pre.length+j*sz+sz)).toArray):=by
  simp[execOp,ep,Instr.storeAt,Instr.sureAddr,qQ]
 rw[er,wI];have Va:cur.toList.take (pre.length+j*sz)++(a.eval x).cells.toList++cur.toList.drop (pre.length+j*sz+sz)=pre++((xs.take (j*sz)++(a.eval x).cells.toList++xs.drop (j*sz+sz))++post):=by
  have t1:(pre++(xs++post)).take (pre.length+j*sz)=pre++xs.take (j*sz):=by
   rw[Jt,fe (by omega)]
   congr 1
   rw[show pre.length+j*sz-pre.length=j*sz from by omega,List.take_append_of_le_length (by omega)]
  have t2:(pre++(xs++post)).drop (pre.length+j*sz+sz)=xs.drop (j*sz+sz)++post:=by
   rw[uj,<-ji,FE,List.drop_append_of_le_length (by omega)]
  rw[Hs,t1,t2];simp
 rw[Va];have hg:AO w (w.setRow b (pre++((xs.take (j*sz)++(a.eval x).cells.toList++xs.drop (j*sz+sz))++post)).toArray) (some b):=AO.setRow w b _;refine k a _ H (jo df (bY _<|az ht) hg hB (by simp[bN.owns,e,Value.ownBlock]) ?_ fun c hc=> .inl hc);refine⟨b,c,_,_,by rw[e];simp[lT],Fw w b _ _ _ _ hb,rfl,?_,hH,hB⟩;rw[show lT f (l.set j y)=(lT f l).set j (f y) from by simp[lT,yC]];exact uW
def V9(hf:∀z,(f z).n=sz)(hp:look Γ p=some (.J8 t j sz))(ht:look Γ t=some (.pb E pre post<|lT f l))(h:l[j]? =some z)(hx:Arg Γ x (f y))(hT:eG P T (f y).n (f y).agg=true):
  Step P N ops ⟨none,.store T (.tmp p) x,ty,pos,af,none⟩ Γ ((t,.pb E pre post<|lT f<|l.set j y)::bQ t Γ):=XW (fun _ h=>h) hf hp ht h hx hT
def afu(hf:∀z,(f z).n=sz)(hp:look Γ p=some (.J8 t j sz))(ht:look Γ t=some (.pb E pre post<|lT f l))(h:l[j]? =some z)(hx:Arg Γ x (f y))(hT:eG P T (f y).n (f y).agg=true):
  Qw P N ops Γ ⟨none,.store T (.tmp p) x,ty,pos,af,none⟩ t (.pb E pre post<|lT f<|l.set j y):=fun _ bY=>XW bY hf hp ht h hx hT
end
section
variable[D:DR]
variable{P:Program}{w0:an P}{H0:HV}{N:Nat}{ops:Array Oper}{Γ ay:Ctx}{d:Option Tmp}{ty:TypeId}{pos:String}{af:Array Edge}{g:Option (Nat×Bool)}
variable{E:asr}{sz t:Nat}{α:Type}{f:α->Ty}{l:asv α}{xs:asv asu}{ta:auA asr}{dd:Nat}{x:asu}{i n u:Nat}{bl args:asv Ty}
def QZ{T:asr}{lo hi:auz asu}{i j:Int}(hT:Br P T sz=true)(hs:eP Γ x t)(ht:look Γ t=some (.buf E sz<|lT f l))(GV:Lo Γ lo 0 i)(Vb:Lo Γ hi l.length j)(h:(decide (0<=i)&&decide (i<j)&&decide (j<=l.length))=true):
  bK P Γ ⟨d,.slice T x lo hi none,ty,pos,af,g⟩ (.win t i.toNat (j-i).toNat sz):=
 bh fun w0 _ _ a w H df=>by
  rw[cW,cW,j4,j4,j4] at h;obtain⟨⟨h1,h2⟩,h3⟩:=h;obtain⟨b,cap,cs,xs,e,hb,hcap,_⟩:=B5 (df.holds _<|az ht) (fun e=>by
   have:l=[]:=List.map_eq_nil_iff.1 e;rw[this] at h3;simp at h3;omega)
  simp only at e;rw[gG] at e hcap;obtain⟨el,ii,hue,hii,hsz⟩:=Mq hT;have w9:∀w,(Go.sizeOf el).run P w= .ok sz w:=fun w=>by simp[Go.sizeOf,typeInfo,program,Sem.run,hii,hsz]
  have hbd:=Ds (P:=P) (b:=true) (cap:=cap) (w:=w) GV Vb h1 (by omega) h3 hcap df;have e3:a.eval x= .slice (some ⟨b,0,none⟩) l.length cap:=by rw[hs.ok df];exact e
  refine⟨.slice (some ⟨b,i.toNat*sz,none⟩) (j-i).toNat<|cap-i.toNat,?_,⟨b,_,cap,cap-i.toNat,e,rfl⟩,rfl⟩;have hne: ¬cap=i.toNat:=by omega
  have hn:j.toNat-i.toNat=(j-i).toNat:=by omega
  simp[execOp,e3,Instr.sliceAt,aP hue,Instr.slice,hbd,w9,addr_add,hne,hn]
def afH{B:an P}{w:aq5}{H:HV}{v:aq6}(hf:∀z,(f z).n=sz)(h:wT B w H E sz (lT f l) v)(hn:0<n)(hl:i+n<=l.length){b:Nat}{len cap:Nat}(hv:v= .slice (some ⟨b,0,none⟩) len cap)(c:Nat):
  ∃pre post:asv aq6,pre.length=i*sz/\(bN.pb E pre post<|lT f<|(l.drop i).take n).holds B Tc w H (.slice (some ⟨b,i*sz,none⟩) n c)/\
   ∀(w':aq5) (H':HV) (r:asv α),HV.le H H'->r.length=n->(bN.pb E pre post<|lT f r).holds B Tc w' H' (.slice (some ⟨b,i*sz,none⟩) n c)->wT B w' H' E sz (lT f<|l.take i++r++l.drop (i+n)) v:=by
 subst hv;obtain⟨xs,⟨GS,hr⟩,ho,hH⟩:=h;rcases hr with⟨e,_⟩|⟨g',aa4,cur,e,h0,hb,hcap,hm,hcs,htake⟩
 ·cases e
 cases e;have hu:HR sz (lT f l):=mD hf l;have GS:xs.length=l.length*sz:=by simpa using GS
 rw[gG] at htake hcap;have s1:i*sz+n*sz<=xs.length:=by rw[GS,<-pg];exact nE _ hl
 have Hs:cur.toList=xs++cur.toList.drop (l.length*sz):=by
  conv=>lhs;rw[<-zN (l.length*sz) cur.toList,htake]
 have hx3:xs=xs.take (i*sz)++((xs.drop<|i*sz).take (n*sz)++xs.drop (i*sz+n*sz)):=by
  conv=>lhs;rw[<-zN (i*sz) xs]
  congr 1
  conv=>lhs;rw[<-zN (n*sz) (xs.drop<|i*sz),ji]
 have OT:(xs.take<|i*sz).length=i*sz:=by rw[List.length_take];omega
 have Wy:∀(lo hi:Nat),vH H ((lT f l).take hi|>.drop lo) ((xs.take<|hi*sz).drop<|lo*sz):=fun lo hi=>A8 hu ho lo hi
 refine⟨xs.take<|i*sz,xs.drop (i*sz+n*sz)++cur.toList.drop (l.length*sz),OT,?_,?_⟩
 ·refine⟨b,c,cur,(xs.drop<|i*sz).take<|n*sz,?_,hb,?_,?_,(hH b rfl).1,(hH b rfl).2⟩
  ·rw[OT];simp;omega
  ·have e0:xs++cur.toList.drop (l.length*sz)=(xs.take (i*sz)++((xs.drop<|i*sz).take (n*sz)++xs.drop (i*sz+n*sz)))++cur.toList.drop (l.length*sz):=by rw[<-hx3]
   exact Hs.trans (e0.trans (by rw[rq,rq]))
  ·have:=Wy i (i+n);rw[show((lT f l).take<|i+n).drop i=lT f ((l.drop i).take n) from by simp[lT,<-List.map_take,<-List.map_drop,um]] at this;rw[pg,um,show i*sz+n*sz-i*sz=n*sz from by omega] at this;exact this
 ·rintro w' H' r hle hrl ⟨g2,c2,aj1,xs2,e2,hb2,Ve,YO,Qm,hB2⟩;have e3:g2=b:=by
   simp only[Value.slice.injEq,Option.some.injEq,Addr.mk.injEq] at e2;exact e2.1.1.symm
  subst e3;have KK:vH H' (lT f<|l.take i++r++l.drop (i+n)) (xs.take (i*sz)++xs2++xs.drop (i*sz+n*sz)):=by
   have p1:=Wy 0 i;have p2:=Wy (i+n) l.length;rw[MH,yF,yF] at p1;rw[fe (by simp[lT]),fe (by omega),pg] at p2;have:=vG (vG (tU hle p1) YO)<|tU hle p2
   rwa [show(lT f l).take i++lT f r++(lT f l).drop (i+n)=lT f (l.take i++r++l.drop (i+n)) from by simp[lT,List.map_take,List.map_drop]] at this
  have OW:xs2.length=n*sz:=by
   have:=oD YO;rw[iC<|mD hf r] at this;simpa[hrl] using this
  have hlen:(lT f<|l.take i++r++l.drop (i+n)).length=l.length:=by simp[hrl];omega
  have alX:(xs.take (i*sz)++xs2++xs.drop (i*sz+n*sz)).length=l.length*sz:=by
   rw[List.length_append,List.length_append,OT,OW,nD,GS];omega
  have hc3:aj1.toList=(xs.take (i*sz)++xs2++xs.drop (i*sz+n*sz))++cur.toList.drop (l.length*sz):=by
   rw[Ve];simp
  have htk:aj1.toList.take (l.length*sz)=xs.take (i*sz)++xs2++xs.drop (i*sz+n*sz):=by
   rw[hc3,List.take_append_of_le_length (by omega),fe (by omega)]
  refine⟨xs.take (i*sz)++xs2++xs.drop (i*sz+n*sz),⟨by rw[hlen];exact alX,.inr ⟨g2,cap,aj1,by rw[hlen];simp,jv _,hb2,by rw[hlen];exact hcap,hm,?_,by rw[hlen];exact htk⟩⟩,KK,fun b' jQ=>?_⟩
  ·have q1:cur.toList.length=cap*sz:=by rw[gN];exact hcs
   have q2:l.length*sz<=cap*sz:=nE _ hcap;rw[<-gN,hc3,List.length_append,alX,nD,q1];omega
  ·have:g2=b':=by simpa[Value.ownBlock] using jQ
   subst this;exact⟨Qm,hB2⟩
def acL{r:asv α}{fn:FuncId}{ys:asv asu}{pre post dq:asv Ty}{dz:Ctx}(bY:∀q∈dz,q∈Γ)(hf:∀z,(f z).n=sz)
 (hS:∀(ps qs:asv aq6),ps.length=i*sz->gi P fn pre (.pb E ps qs<|lT f<|(l.drop i).take n) (.pb E ps qs<|lT f r) post dq)(hx:eP dz x u)(hu:look dz u=some (.win t i n sz))(ht:look dz t=some (.buf E sz<|lT f l))
 (hn:(Nat.blt 0 n&&Nat.ble (i+n) l.length&&Nat.beq r.length n)=true)(ha:aJ dz xs pre)(hb:aJ dz ys post)(nU:dd<N)(hne:dd≠t):
  Step P N ops ⟨some dd,.call ⟨.value<| .func fn,(xs++x::ys).toArray,ta⟩,ty,pos,af,none⟩ Γ ((dd,tR dq)::(t,.buf E sz<|lT f<|l.take i++r++l.drop (i+n))::del dd (bQ t Γ)):=by
 rw[cW,cW] at hn;obtain⟨⟨WZ,Qm⟩,hn3⟩:=hn;have WZ:=gP WZ;have Qm:=gP Qm;have hn3:=fX hn3;intro w0 H0 a w H hs K Q k;simp only[Region.wanted,if_true];have L9:=hs.weaken bY;have yc:=hs.holds _<|bY _<|az ht
 simp only at yc;obtain⟨b,len,cap,c,ev,eu⟩:=hs.holds _<|bY _<|az hu
 simp only at ev eu;obtain⟨ps,qs,hps,hw,ads⟩:=afH hf yc WZ Qm ev c;have can:eN P fn=true:=(hS ps qs hps).can;have e:execOp a.eval ⟨some dd,.call ⟨.value<| .func fn,(xs++x::ys).toArray,ta⟩,ty,pos,af,none⟩=callFunc fn (xs.map a.eval++aX a u::ys.map a.eval).toArray:=by
  have e:execOp a.eval ⟨some dd,.call ⟨.value<| .func fn,(xs++x::ys).toArray,ta⟩,ty,pos,af,none⟩=callFunc fn (#[]++(xs++x::ys).toArray.map a.eval++ #[]):=rfl;rw[e]
  congr 1
  simp[hx.ok L9]
 unfold Oper.wp;rw[e,jX can,CO,eu];have hw0:(bN.pb E ps qs<|lT f<|(l.drop i).take n).holds (an.KC P w fun b'=>(bN.pb E ps qs<|lT f<|(l.drop i).take n).owns w (.slice (some ⟨b,i*sz,none⟩) n c) b') Tc w H (.slice (some ⟨b,i*sz,none⟩) n c):=
  bN.qe rfl hw fun b' jQ=> .inr jQ
 have hown:∀b',(bN.pb E ps qs<|lT f<|(l.drop i).take n).owns w (.slice (some ⟨b,i*sz,none⟩) n c) b'↔(bN.buf E sz<|lT f l).owns w (aX a t) b':=fun b'=>by
  rw[ev];exact Iff.rfl
 refine((hS ps qs hps).run w H _ _ _ hs.sub hs.gl (ha.ok L9) (hb.ok L9) hw0).mono ?_;rintro e w' ⟨rv,rfl,H',hy,pN,ho,hr⟩;have hy':JZ (fun b'=>(bN.buf E sz<|lT f l).owns w (aX a t) b') w H w' H':=by
  have:(fun b'=>(bN.buf E sz<|lT f l).owns w (aX a t) b')=fun b'=>(bN.pb E ps qs<|lT f<|(l.drop i).take n).owns w (.slice (some ⟨b,i*sz,none⟩) n c) b':=funext fun b'=>propext (hown b').symm
  rw[this];exact hy
 have OS:(bN.pb E ps qs<|lT f r).holds w0 Tc w' H' (.slice (some ⟨b,i*sz,none⟩) n c):=bN.qe rfl pN fun b' jQ=>by
  have jQ:(bN.buf E sz<|lT f l).owns w (aX a t) b':=by rw[ev];exact jQ
  exact bN.rN rfl yc jQ
 have uD:(bN.buf E sz<|lT f<|l.take i++r++l.drop (i+n)).holds w0 a w' H' (aX a t):=ads w' H' r hy.le hn3 OS;have h1:=T9 hs (bY _<|az ht) rfl rfl (fun q hq _ b hb=>an.yt<|bN.rN rfl yc hb) hy' uD<|fun b' jQ=> .inl jQ
 have h2:=pT (h1.weaken (ay:=del dd ((t,.buf E sz<|lT f<|l.take i++r++l.drop (i+n))::bQ t Γ)) lh) nU qk (s:=tR dq) (v:=rv) (by
  match dq with
  |[]=>simp[tR,bN.bO]
  |[_]=>simp[tR,bN.bO]
  |_::_::_=>simp[tR,bN.bO]) (sN hr)<|fun b e=>absurd e<|bN.free_spec vA
 refine k _ w' H'<|h2.weaken fun q hq=>?_
 simp only[bP] at hq⊢;rcases hq with h|h|h
 ·exact .inl h
 ·subst h;exact .inr (qI (by simp) (fun e=>hne e.symm) (by simp[bN.bO]))
 ·have:=Pm h;exact .inr<|qI (fY _<|lh _ h) this.1 this.2
def TX{r:asv α}{fn:FuncId}{ys:asv asu}{pre post dq:asv Ty}(hf:∀z,(f z).n=sz)
 (hS:∀(ps qs:asv aq6),ps.length=i*sz->gi P fn pre (.pb E ps qs<|lT f<|(l.drop i).take n) (.pb E ps qs<|lT f r) post dq)(hx:eP Γ x u)(hu:look Γ u=some (.win t i n sz))(ht:look Γ t=some (.buf E sz<|lT f l))
 (hn:(Nat.blt 0 n&&Nat.ble (i+n) l.length&&Nat.beq r.length n)=true)(ha:aJ Γ xs pre)(hb:aJ Γ ys post)(nU:dd<N)(hne:(dd !=t)=true):
  Step P N ops ⟨some dd,.call ⟨.value<| .func fn,(xs++x::ys).toArray,ta⟩,ty,pos,af,none⟩ Γ ((dd,tR dq)::(t,.buf E sz<|lT f<|l.take i++r++l.drop (i+n))::del dd (bQ t Γ)):=
 acL (fun _ h=>h) hf hS hx hu ht hn ha hb nU (by simpa using hne)
structure AP(P:ast)(f:FuncId)(E:asr)(sz:Nat)(bl:asv Ty)(args:asv Ty)(l:asv Ty):Prop where
 can:eN P f=true
 run:∀(w:aq5) (H:HV) (v:aq6) (xs:asv aq6) (vs:asv aq6),(∀r o,H r=some o->w.heap[r]? =some o)->qn P H->w.ownsRow 0 E sz v bl.length xs->vH H bl xs->(∀b,v.ownBlock=some b->H b=none)->Ct H args vs->
  Calls P f (v::vs).toArray w fun e w'=>∃r,e= .returned r/\AO w w' v.ownBlock/\∃xs',w'.ownsRow 0 E sz r l.length xs'/\vH H l xs'/\∀b,r.ownBlock=some b->v.ownBlock=some b
def AP.pub{f:FuncId}{l:asv Ty}(h:AP P f E sz bl args l):F3 P f E sz bl args [J5 l]:=
 ⟨h.can,fun w H v xs vs sub gl ho hx hb ha=>(h.run w H v xs vs sub gl ho hx hb ha).mono fun _ w' ⟨r,e,hg,xs',h3,h4,h5⟩=>by
  have hn:∀b,r.ownBlock=some b->H b=none:=fun b hbr=>hb b<|h5 b hbr
  have hle:HV.le H (fun c=>if r.ownBlock=some c then w'.heap[c]? else H c):=by
   intro c o hc;by_cases e:r.ownBlock=some c
   ·rw[hn c e] at hc;cases hc
   ·simp[e,hc]
  refine⟨r,e,hg,fun c=>if r.ownBlock=some c then w'.heap[c]? else H c,hle,?_,?_,?_⟩
  ·intro c _ hc;have:r.ownBlock≠some c:=fun e=>hc<|h5 c e
   simp[this]
  ·intro c o hc;by_cases e:r.ownBlock=some c
   ·simpa[e] using hc
   ·simp only[e,if_false] at hc;rw[hg.block c (lt_of_heap<|sub c o hc) (fun e2=>by rw[hb c e2.symm] at hc;cases hc)];exact sub c o hc
  ·exact De (a:=⟨#[],[]⟩) (B:=an.KC P w fun b=>v.ownBlock=some b) (w:=w') (H:=H) ⟨xs',h3,h4,fun b hb2=>⟨hn b hb2,.inr<|h5 b hb2⟩⟩ hle (fun b hb2 _ o hbo=>by simp[hb2,hbo])⟩
def aaQ{s:asu}{f:FuncId}{l:asv Ty}(B1:AP P f E sz bl args l)(hs:s= .tmp t\/∃u,s= .tmp u/\look Γ u=some (.same t))(ht:look Γ t=some (.buf E sz bl))(ha:aJ Γ xs args)(nU:dd<N):
  Qx P N ops Γ ⟨some dd,.call ⟨.value<| .func f,(s::xs).toArray,ta⟩,ty,pos,af,none⟩ t dd (.buf E sz l):=by
 intro tD bY w0 H0 a w H df K Q k;simp only[Region.wanted,if_true];have hb:=df.holds _<|bY _<|az ht
 obtain⟨ys,hr,ho,hn⟩:=hb;have es:a.eval s=aX a t:=by
  rcases hs with rfl|⟨u,rfl,hu⟩
  ·rfl
  ·exact df.holds _<|bY _<|az hu
 have e0:execOp a.eval ⟨some dd,.call ⟨.value<| .func f,(s::xs).toArray,ta⟩,ty,pos,af,none⟩=callFunc f (#[]++(s::xs).toArray.map a.eval++ #[]):=rfl;unfold Oper.wp;rw[e0,jX B1.can,CO];have e2:(#[]++(s::xs).toArray.map a.eval++ #[])=(aX a t::xs.map a.eval).toArray:=by simp[es]
 rw[e2];refine(B1.run w H _ ys _ df.sub df.gl hr ho (fun b hb=>(hn b hb).1)<|ha.ok<|df.weaken bY).mono ?_;rintro e w' ⟨r,rfl,hg,xs',h3,h4,h5⟩;have Rg:∀b,(aX a t).ownBlock=some b->w0.mY b/\H b=none/\∀l,w.heap[b]? ≠some (.deferred l):=fun b hb=>⟨(hn b hb).2,(hn b hb).1,fun l e=>by
  obtain⟨_,_,o,h3,h4⟩:=bN.mh (s:= .buf E sz bl) (B:=w0) (a:=a) ⟨ys,hr,ho,hn⟩ hb;rw[h3] at e;cases e;exact h4⟩
 have YG:∀b o,H b=some o->w'.heap[b]? =some o:=fun c o hc=>by
  rw[hg.block c (lt_of_heap<|df.sub c o hc) (fun e2=>by rw[(hn c e2.symm).1] at hc;cases hc)];exact df.sub c o hc
 have VV:∀q∈del dd (bQ t tD),∀c,q.2.owns w (aX a q.1) c->(aX a t).ownBlock≠some c:=fun q hq c hc e=>
  df.sep _ (bY _<|az ht) q (bI q<|lh q hq).1 (fun e=>(bI q<|lh q hq).2 e.symm) c e hc
 have lJ:Sat w0 H0 N (del dd<|bQ t tD) a w' H:=
  Ua df hg Rg (HV.le.refl _) (fun _ _ _=>rfl) YG fun q hq=>⟨(bI q<|lh q hq).1,VV q hq⟩
 refine k _ w' H (pT lJ nU qk (by simp[bN.bO]) ⟨xs',h3,h4,fun b hb=>⟨(hn b<|h5 b hb).1,(hn b<|h5 b hb).2⟩⟩ ?_);intro b hb q hq hq2;have hb:r.ownBlock=some b:=hb;have aaC:=(bI q<|lh q hq).1;have F:Far w0.lo (fun b=>q.2.owns w (aX a q.1) b) w H w' H:=by
  have hk:∀c,c<w.heap.size->(c<w0.lo\/q.2.owns w (aX a q.1) c)->(aX a t).ownBlock≠some c:=fun c _ h e=>by
   rcases h with h|h
   ·have:=an.yt (hn c e).2;omega
   ·exact VV q hq c h e
  exact⟨hg.size,hg.os,hg.tape,hg.output,hg.drawn,HV.le.refl _,fun c hc h=>hg.block c hc<|fun e=>hk c hc h e.symm,fun _ _ _=>rfl,YG⟩
 exact VV q hq b (((bN.B2 (df.holds q aaC) F).2 b).1 hq2)<|h5 b hb
def ZI{f:FuncId}{l:asv Ty}(B1:AP P f E sz bl args l)(hu:look Γ u=some (.same t))(ht:look Γ t=some (.buf E sz bl))(ha:aJ Γ xs args)(nU:dd<N):
  Step P N ops ⟨some dd,.call ⟨.value<| .func f,(.tmp u::xs).toArray,ta⟩,ty,pos,af,none⟩ Γ ((dd,.buf E sz l)::del dd (bQ t Γ)):=aaQ B1 (.inr ⟨u,rfl,hu⟩) ht ha nU Γ<|fun _ h=>h
end
section
variable[D:DR]
def ck(b:Bool)(p:Prop):Prop:=match b with
 |true=>p
 |false=>False
def ck_{b:Bool}{p:Prop}(h:ck b p):b=true/\p:=by
 cases b
 ·exact h.elim
 ·exact⟨rfl,h⟩
def lkV(o:auz bN)(K:Ty->Prop):Prop:=match o with
 |some (.val τ)=>K τ
 |_=>False
def aiR{o:auz bN}{K:Ty->Prop}(h:lkV o K):∃τ,o=some (.val τ)/\K τ:=by
 unfold lkV at h;split at h
 ·exact⟨_,rfl,h⟩
 ·exact h.elim
def Tk(Γ:Ctx):asv Nat->auz Ctx
 |[]=>some []
 |t::ts=>match look Γ t,Tk Γ ts with
  |some s,some ay=>some ((t,s)::ay)
  |_,_=>none
def Iz{Γ:Ctx}:∀{ts:asv Nat} {ay:Ctx},Tk Γ ts=some ay->vi Γ ts ay
 |[],_,h=>by cases h;exact .nil
 |t::ts,ay,h=>by
  unfold Tk at h;split at h
  ·rename_i h1 h2;cases h;exact .cons h1<|Iz h2
  ·cases h
end
section
variable[D:DR]
variable{P:Program}{w0:an P}{H0:HV}{N:Nat}{ops:Array Oper}{Γ ay fD:Ctx}{l:List Oper}{d:Nat}{op:Op}{ty:TypeId}{pos:String}{af:Array Edge}{K:Ctx->Prop}{Q:Exit->Act->World->Prop}
variable{s:bN}
structure CK(P:ast)(w0:an P)(N:Nat)(ops:auA Oper)(l:asv Oper)(Γ:Ctx)(K:Ctx->Prop):Prop where
 w:∃ay,fP P w0 N ops l Γ ay/\K ay
def fr(N d:Nat)(s:bN)(Γ:Ctx):Bool:=Nat.blt d N&&(nF d Γ&& !s.uz d)
def fo(N d:Nat)(s:bN):Bool:=Nat.blt d N&& !s.uz d
def fr_{N d:Nat}{Γ:Ctx}(h:fr N d s Γ=true):d<N/\nF d Γ=true/\s.uz d=false:=by
 simp only[fr,cW,jj] at h;exact⟨cq h.1,h.2.1,h.2.2⟩
def fo_{N d:Nat}(h:fo N d s=true):d<N/\s.uz d=false:=by
 simp only[fo,cW,jj] at h;exact⟨cq h.1,h.2⟩
def cP(h:bK P Γ ⟨some d,op,ty,pos,af,none⟩ s)(r:ck (fr N d s Γ) (CK P w0 N ops l ((d,s)::Γ) K)):CK P w0 N ops (⟨some d,op,ty,pos,af,none⟩::l) Γ K:=by
 obtain⟨hb,ay,h1,h2⟩:=ck_ r;obtain⟨b1,b2,b3⟩:=fr_ hb;exact⟨ay,.cons (Step.pure h rfl rfl b1 b2 b3) h1,h2⟩
def cO(h:bK P Γ ⟨some d,op,ty,pos,af,none⟩ s)(r:ck (fo N d s) (CK P w0 N ops l ((d,s)::del d Γ) K)):CK P w0 N ops (⟨some d,op,ty,pos,af,none⟩::l) Γ K:=by
 obtain⟨hb,ay,h1,h2⟩:=ck_ r;obtain⟨b1,b3⟩:=fo_ hb;exact⟨ay,.cons (Step.over h rfl rfl b1 b3) h1,h2⟩
def cS{o:Oper}(h:Step P N ops o Γ fD)(r:CK P w0 N ops l fD K):CK P w0 N ops (o::l) Γ K:=by
 obtain⟨ay,h1,h2⟩:=r;exact⟨ay,.cons h h1,h2⟩
def cG(h:qY w0 N Γ fD)(r:CK P w0 N ops l fD K):CK P w0 N ops l Γ K:=by
 obtain⟨ay,h1,h2⟩:=r;exact⟨ay,.ghost h h1,h2⟩
def cF(ts:asv Nat)(h:Tk Γ ts=some fD)(r:K fD):CK P w0 N ops [] Γ K:=⟨fD,.fin<|Iz h,r⟩
def cY{ts:asv Nat}(h:vi Γ ts fD)(r:K fD):CK P w0 N ops [] Γ K:=⟨fD,.fin h,r⟩
def cPr(h:bK P Γ ⟨some d,op,ty,pos,af,none⟩ s)(hb:fr N d s Γ=true)(r:CK P w0 N ops l ((d,s)::Γ) K):CK P w0 N ops (⟨some d,op,ty,pos,af,none⟩::l) Γ K:=cP h (by rw[hb];exact r)
def aq2(m t:Nat):Bool:=Nat.beq (Nat.mod (Nat.div m<|Nat.pow 2 t) 2) 1
def fm(m:Nat):Ctx->auz Ctx
 |[]=>some []
 |(t,s)::Γ=>match aq2 m t with
  |true=>match fm m Γ with
   |some ay=>some ((t,s)::ay)
   |none=>none
  |false=>fm m Γ
def fm_{m:Nat}:∀{Γ ay:Ctx},fm m Γ=some ay->∀q∈ay,q∈Γ
 |[],_,h,q,hq=>by cases h;exact hq
 |(t,s)::Γ,ay,h,q,hq=>by
  unfold fm at h;split at h
  ·split at h
   ·rename_i h1;cases h;rcases bP.1 hq with e|hq
    ·rw[e];simp
    ·exact fY _<|fm_ h1 q hq
   ·cases h
  ·exact fY _<|fm_ h q hq
def gm{m:Nat}(h:fm m Γ=some fD):qY w0 N Γ fD:=fun _ _ _ H hs=>⟨H,hs.weaken<|fm_ h⟩
def aj(m:Nat)(h:fm m Γ=some fD)(r:K fD):CK P w0 N ops [] Γ K:=cG (gm h) ⟨fD,.done,r⟩
def cWm(m:Nat)(h:fm m Γ=some fD)(r:CK P w0 N ops l fD K):CK P w0 N ops l Γ K:=cG (gm h) r
def cD(r:K Γ):CK P w0 N ops [] Γ K:=⟨Γ,.done,r⟩
end
section
variable[D:DR]
variable{P:Program}{w0:an P}{H0:HV}{N:Nat}{ops:Array Oper}{Γ ay fD:Ctx}{l:List Oper}{d:Nat}{op:Op}{ty:TypeId}{pos:String}{af:Array Edge}{K:Ctx->Prop}{Q:Exit->Act->World->Prop}
variable{x y:Operand}{t t':Nat}{T T':TypeId}{τ σ:Ty}{k:IntKind}{m n:Int}{b e:Bool}
variable{off:Nat}{α:Type}{L:asv Ty}{g:auz (Nat×Bool)}
abbrev G(P:ast)(w0:an P)(N:Nat)(ops:auA Oper)(l:asv Oper)(Γ:Ctx)(K:Ctx->Prop)(d:Nat)(s:bN):Prop:=ck (fr N d s Γ)<|CK P w0 N ops l ((d,s)::Γ) K
def lkT(o:auz bN)(K:asv Ty->Prop):Prop:=match o with
 |some (.J3 l)=>K l
 |_=>False
def als{o:auz bN}{K:asv Ty->Prop}(h:lkT o K):∃l,o=some (.J3 l)/\K l:=by
 unfold lkT at h;split at h
 ·exact⟨_,rfl,h⟩
 ·exact h.elim
def lkO{α:Type}(o:auz α)(K:α->Prop):Prop:=match o with
 |some x=>K x
 |_=>False
def aoy{o:auz α}{K:α->Prop}(h:lkO o K):∃x,o=some x/\K x:=by
 unfold lkO at h;split at h
 ·exact⟨_,rfl,h⟩
 ·exact h.elim
def cM(r:lkV (look Γ t) fun τ=>G P w0 N ops l Γ K d<| .val τ):CK P w0 N ops (⟨some d,.move<| .tmp t,ty,pos,af,none⟩::l) Γ K:=by
 obtain⟨τ,h1,h2⟩:=aiR r;exact cP (IV<| .t h1) h2
def cA(r:lkV (look Γ t) fun τ=>G P w0 N ops l Γ K d<| .val τ):CK P w0 N ops (⟨some d,.assign<| .tmp t,ty,pos,af,none⟩::l) Γ K:=by
 obtain⟨τ,h1,h2⟩:=aiR r;exact cP (aC<| .t h1) h2
def cI(r:G P w0 N ops l Γ K d (.val<|TI k n)):CK P w0 N ops (⟨some d,.assign<| .const<| .int k n,ty,pos,af,none⟩::l) Γ K:=cP (aC .int) r
def cB(r:G P w0 N ops l Γ K d (.val<|aZ b)):CK P w0 N ops (⟨some d,.assign<| .const<| .bool b,ty,pos,af,none⟩::l) Γ K:=cP (aC .bool) r
def cN(r:G P w0 N ops l Γ K d (.val<|TI k n)):CK P w0 N ops (⟨some d,.move<| .const<| .int k n,ty,pos,af,none⟩::l) Γ K:=cP (IV .int) r
def cX(r:lkV (look Γ t) fun τ=>G P w0 N ops l Γ K d<| .own T τ):CK P w0 N ops (⟨some d,.box T<| .tmp t,ty,pos,af,none⟩::l) Γ K:=by
 obtain⟨τ,h1,h2⟩:=aiR r;exact cP (aiJ<| .t h1) h2
def cE{i:Nat}(r:lkT (look Γ t) fun L=>lkO L[i]? fun τ=>G P w0 N ops l Γ K d<| .val τ):CK P w0 N ops (⟨some d,.extract (.tmp t) i,ty,pos,af,none⟩::l) Γ K:=by
 obtain⟨L,h1,h2⟩:=als r;obtain⟨τ,h3,h4⟩:=aoy h2;exact cP (dW h1 h3) h4
def cZ(r:lkT (look Γ t) fun L=>G P w0 N ops l Γ K d<| .J3 L):CK P w0 N ops (⟨some d,.move<| .tmp t,ty,pos,af,none⟩::l) Γ K:=by
 obtain⟨L,h1,h2⟩:=als r;exact cP (wV h1) h2
def cQ(r:G P w0 N ops l Γ K d (.same t)):CK P w0 N ops (⟨some d,.move<| .tmp t,ty,pos,af,none⟩::l) Γ K:=cP fa r
def cU(h:look Γ t=some (.own T' τ))(hT:eG P T τ.n τ.agg=true)(r:G P w0 N ops l Γ K d (.val τ)):CK P w0 N ops (⟨some d,.load T<| .tmp t,ty,pos,af,none⟩::l) Γ K:=cP (ab h hT) r
def cR(h:look Γ t=some (.val<|nY τ))(hT:eG P T τ.n τ.agg=true)(r:G P w0 N ops l Γ K d (.val τ)):CK P w0 N ops (⟨some d,.load T<| .tmp t,ty,pos,af,none⟩::l) Γ K:=cP (aU (.t h) hT) r
def lk2(Γ:Ctx)(t:Nat):auz (Nat×Ty):=match look Γ t with
 |some (.ptr t' off)=>match look Γ t' with
  |some (.own _ τ)=>some (off,τ)
  |_=>none
 |_=>none
def aoA{Γ:Ctx}{t:Nat}{τ:Ty}(h:lk2 Γ t=some (off,τ)):∃t' T,look Γ t=some (.ptr t' off)/\look Γ t'=some (.own T τ):=by
 unfold lk2 at h;split at h
 ·rename_i h1;split at h
  ·rename_i h2;cases h;exact⟨_,_,h1,h2⟩
  ·cases h
 ·cases h
def pick(L:asv Ty)(i off:Nat):auz Ty:=match Nat.beq (dm<|L.take i) off with
 |true=>L[i]?
 |false=>none
def ace{i:Nat}{σ:Ty}(h:pick L i off=some σ):aQ (gn L) off σ:=by
 unfold pick at h;split at h
 ·rename_i e;exact .agg h<|fX e
 ·cases h
def oP{d:auz Tmp}(i:Nat)(h:lk2 Γ t=some (off,gn L))(h1:pick L i off=some σ)(hT:eG P T σ.n σ.agg=true):bK P Γ ⟨d,.load T<| .tmp t,ty,pos,af,g⟩ (.val σ):=by
 obtain⟨t',T',k1,k2⟩:=aoA h;exact cr k1 k2 (ace h1) hT
def cV(i:Nat)(h:lk2 Γ t=some (off,gn L))(h1:pick L i off=some σ)(hT:eG P T σ.n σ.agg=true)(r:G P w0 N ops l Γ K d (.val σ)):CK P w0 N ops (⟨some d,.load T<| .tmp t,ty,pos,af,none⟩::l) Γ K:=cP (oP i h h1 hT) r
def cK{k':Nat}(h:look Γ t=some (.own T' τ))(hf:jO P T k' off=true)(r:G P w0 N ops l Γ K d (.ptr t off)):CK P w0 N ops (⟨some d,.fieldAddr T (.tmp t) k',ty,pos,af,none⟩::l) Γ K:=cP (aO h hf) r
def cJ{f:α->Ty}{L:asv α}(hT:kA P T=true)(h:look Γ t=some (.val<|TL f L))(r:G P w0 N ops l Γ K d (.val<|TI .i64 L.length)):CK P w0 N ops (⟨some d,.call ⟨.builtin .len,#[.tmp t],#[T]⟩,ty,pos,af,none⟩::l) Γ K:=cP (pA hT<| .t h) r
def cT(h:bL P T τ)(r:G P w0 N ops l Γ K d (.own T τ)):CK P w0 N ops (⟨some d,.alloc T,ty,pos,af,none⟩::l) Γ K:=cP (gW h) r
def cH{r':Int}(h:look Γ t=some (.val<|TI .i64 m))(h1:aF (m+n)=some r')(r:G P w0 N ops l Γ K d (.val<|TI .i64 r')):CK P w0 N ops (⟨some d,.binOp .add T (.tmp t) (.const<| .int .i64 n) T',ty,pos,af,none⟩::l) Γ K:=cP (cg (.t h) .int h1) r
def cL(h:look Γ t=some (.val<|TI k m))(h':look Γ t'=some (.val<|TI k n))(r:G P w0 N ops l Γ K d (.val<|aZ<|decide<|m<n)):CK P w0 N ops (⟨some d,.binOp .lss T (.tmp t) (.tmp t') T',ty,pos,af,none⟩::l) Γ K:=cP (eJ (.t h)<| .t h') r
def oX{f:α->Ty}{L:asv α}{d:auz Tmp}{i:Int}{sz:Nat}{y:α}(hT:Br P T sz=true)(hf:∀z,(f z).n=sz)(hx:look Γ t=some (.val<|TL f L))(hi:look Γ t'=some (.val<|TI k i))(h:bj L i=some y):bK P Γ ⟨d,.indexAddr T (.tmp t)<| .tmp t',ty,pos,af,g⟩ (.val<|nY<|f y):=lO hT hf (.t hx) (.t hi) h
def Qu(Γ:Ctx):asv asu->auz (asv Ty)
 |[]=>some []
 | .tmp t::xs=>match look Γ t,Qu Γ xs with
  |some (.val τ),some l=>some (τ::l)
  |_,_=>none
 | .const (.int k n)::xs=>match Qu Γ xs with
  |some l=>some (TI k n::l)
  |_=>none
 | .const (.bool b)::xs=>match Qu Γ xs with
  |some l=>some (aZ b::l)
  |_=>none
 |_=>none
def VC{Γ:Ctx}:∀{xs:asv asu} {l:asv Ty},Qu Γ xs=some l->aJ Γ xs l
 |[],_,h=>by cases h;exact .nil
 | .tmp t::xs,l,h=>by
  unfold Qu at h;split at h
  ·rename_i h1 h2;cases h;exact .cons (.t h1)<|VC h2
  ·cases h
 | .const (.int k n)::xs,l,h=>by
  unfold Qu at h;split at h
  ·rename_i h2;cases h;exact .cons .int<|VC h2
  ·cases h
 | .const (.bool b)::xs,l,h=>by
  unfold Qu at h;split at h
  ·rename_i h2;cases h;exact .cons .bool<|VC h2
  ·cases h
def oC{f:FuncId}{xs:asv asu}{ta:auA asr}{args:asv Ty}{dq:Ze}{d:auz Tmp}(hf:fC P f args dq)(ha:Qu Γ xs=some args):bK P Γ ⟨d,.call ⟨.value<| .func f,xs.toArray,ta⟩,ty,pos,af,g⟩ (afI dq):=fS hf<|VC ha
def cC{f:FuncId}{xs:asv asu}{ta:auA asr}{args:asv Ty}{dq:Ze}(hf:fC P f args dq)(ha:Qu Γ xs=some args)(r:G P w0 N ops l Γ K d (afI dq)):CK P w0 N ops (⟨some d,.call ⟨.value<| .func f,xs.toArray,ta⟩,ty,pos,af,none⟩::l) Γ K:=cP (oC hf ha) r
def gV{j dj:Nat}{want:Bool}{dz:Ctx}{s:bN}(hj:(ops[j]?).bind (·.dst)=some dj)(hl:look Γ dj=some (.val<|aZ b))(ho:Di Γ (gd b want) dz)(h:gd b want=true->bK P dz ⟨some d,op,ty,pos,af,some (j,want)⟩ s)(r:ck (Nat.blt dj N&&fr N d s Γ) (CK P w0 N ops l ((d,.opt (gd b want) s)::Γ) K)):CK P w0 N ops (⟨some d,op,ty,pos,af,some (j,want)⟩::l) Γ K:=by
 obtain⟨hb,ay,h1,h2⟩:=ck_ r;rw[cW] at hb;obtain⟨b1,b2,b3⟩:=fr_ hb.2;exact⟨ay,.cons (Step.guarded (.v rfl hj hl<|cq hb.1) (opO ho h) rfl b1 b2 b3) h1,h2⟩
def gO{j dj:Nat}{want:Bool}{dz:Ctx}{s:bN}(hj:(ops[j]?).bind (·.dst)=some dj)(hl:look Γ dj=some (.opt e<| .val<|aZ b))(ho:Di Γ (e&&gd b want) dz)(h:(e&&gd b want)=true->bK P dz ⟨some d,op,ty,pos,af,some (j,want)⟩ s)(r:ck (Nat.blt dj N&&fr N d s Γ) (CK P w0 N ops l ((d,.opt (e&&gd b want) s)::Γ) K)):CK P w0 N ops (⟨some d,op,ty,pos,af,some (j,want)⟩::l) Γ K:=by
 obtain⟨hb,ay,h1,h2⟩:=ck_ r;rw[cW] at hb;obtain⟨b1,b2,b3⟩:=fr_ hb.2;exact⟨ay,.cons (Step.guarded (.o rfl hj hl<|cq hb.1) (opO ho h) rfl b1 b2 b3) h1,h2⟩
end
section
variable[D:DR]
variable{P:Program}{w0:an P}{H0:HV}{N:Nat}{ops:Array Oper}{Γ ay fD:Ctx}{l:List Oper}{d:Nat}{op:Op}{ty:TypeId}{pos:String}{af:Array Edge}{K:Ctx->Prop}{Q:Exit->Act->World->Prop}
def rS{id:Nat}{y:Code}(r:ck (pU l) (CK P w0 N l.toArray l Γ fun ay=>Goal P w0 H0 N y Q ay)):Goal P w0 H0 N (.seq (.region id l.toArray false) y) Q Γ:=by
 obtain⟨gS,ay,h1,h2⟩:=ck_ r;exact ae<|EP gS h1<|ar h2
def rK{id:Nat}(r:ck (pU l) (CK P w0 N l.toArray l Γ fun ay=>me w0 H0 N (Q .normal) ay)):Goal P w0 H0 N (.region id l.toArray false) Q Γ:=by
 obtain⟨gS,ay,h1,h2⟩:=ck_ r;exact EP gS h1 h2
structure PK(P:ast)(N:Nat)(ops:auA Oper)(Γ:Ctx)(acc:asv Ctx)(l:asv Oper)(K:asv (asv Nat)->asv Bool->asv Ctx->Prop):Prop where
 w:∃jb ja S,bT P N ops Γ acc l jb ja S/\K jb ja S
end
section
variable[D:DR]
variable{P:Program}{w0:an P}{H0:HV}{N:Nat}{ops:Array Oper}{Γ ay fD:Ctx}{l:List Oper}{d:Nat}{op:Op}{ty:TypeId}{pos:String}{af:Array Edge}{K:Ctx->Prop}{Q:Exit->Act->World->Prop}
variable{acc:List Ctx}{ts:List Nat}{dz:Ctx}{s s' su:bN}{t u:Nat}{o:Oper}{R:List (List Nat)->List Bool->List Ctx->Prop}
def dN(r:R [] [] acc):PK P N ops Γ acc [] R:=⟨_,_,_,.nil,r⟩
def dP(ts:asv Nat)(hs:Tk (acc.flatten++Γ) ts=some dz)(h:bK P dz ⟨some d,op,ty,pos,af,none⟩ s)(r:ck (Nat.blt d N) (PK P N ops Γ ([(d,s)]::acc) l fun n p S=>R (ts::n) (true::p) S)):PK P N ops Γ acc (⟨some d,op,ty,pos,af,none⟩::l) R:=by
 obtain⟨hb,n,p,S,h1,h2⟩:=ck_ r;exact⟨_,_,S,.cons (Iz hs) h rfl rfl (cq hb) h1,h2⟩
def dV{j dj:Nat}{want b:Bool}{Γj:Ctx}(ts:asv Nat)(hs:Tk (acc.flatten++Γ) ts=some dz)(hj:(ops[j]?).bind (·.dst)=some dj)(hl:look dz dj=some (.val<|aZ b))(ho:Di dz (gd b want) Γj)(h:gd b want=true->bK P Γj ⟨some d,op,ty,pos,af,some (j,want)⟩ s)(r:ck (Nat.blt dj N&&Nat.blt d N) (PK P N ops Γ ([(d,.opt (gd b want) s)]::acc) l fun n p S=>R (ts::n) (true::p) S)):PK P N ops Γ acc (⟨some d,op,ty,pos,af,some (j,want)⟩::l) R:=by
 obtain⟨hb,n,p,S,h1,h2⟩:=ck_ r;rw[cW] at hb;exact⟨_,_,S,.guarded (Iz hs) (.v rfl hj hl<|cq hb.1) (opO ho h) rfl (cq hb.2) h1,h2⟩
def dO{j dj:Nat}{want b e:Bool}{Γj:Ctx}(ts:asv Nat)(hs:Tk (acc.flatten++Γ) ts=some dz)(hj:(ops[j]?).bind (·.dst)=some dj)(hl:look dz dj=some (.opt e<| .val<|aZ b))(ho:Di dz (e&&gd b want) Γj)(h:(e&&gd b want)=true->bK P Γj ⟨some d,op,ty,pos,af,some (j,want)⟩ s)(r:ck (Nat.blt dj N&&Nat.blt d N) (PK P N ops Γ ([(d,.opt (e&&gd b want) s)]::acc) l fun n p S=>R (ts::n) (true::p) S)):PK P N ops Γ acc (⟨some d,op,ty,pos,af,some (j,want)⟩::l) R:=by
 obtain⟨hb,n,p,S,h1,h2⟩:=ck_ r;rw[cW] at hb;exact⟨_,_,S,.guarded (Iz hs) (.o rfl hj hl<|cq hb.1) (opO ho h) rfl (cq hb.2) h1,h2⟩
def dS(ts:asv Nat)(hs:Tk (acc.flatten++Γ) ts=some dz)(h:Qw P N ops dz o t s)(r:PK P N ops Γ ([(t,s)]::acc) l fun n p S=>R (ts::n) (false::p) S):PK P N ops Γ acc (o::l) R:=by
 obtain⟨n,p,S,h1,h2⟩:=r;exact⟨_,_,S,.store (Iz hs) h h1,h2⟩
def dG(gs ts:asv Nat)(hs:Tk (acc.flatten++Γ) ts=some dz)(h:Qx P N ops dz o t d s)(r:PK P N ops Γ (((d,s)::(t,.gone)::gs.map fun u=>(u,.gone))::acc) l fun n p S=>R (ts::n) (true::p) S):PK P N ops Γ acc (o::l) R:=by
 obtain⟨n,p,S,h1,h2⟩:=r;exact⟨_,_,S,.ajV gs (Iz hs) h h1,h2⟩
def dT(ts:asv Nat)(hs:Tk (acc.flatten++Γ) ts=some dz)(h:XG P N ops dz o t s' d s)(r:PK P N ops Γ ([(d,s),(t,s')]::acc) l fun n p S=>R (ts::n) (true::p) S):PK P N ops Γ acc (o::l) R:=by
 obtain⟨n,p,S,h1,h2⟩:=r;exact⟨_,_,S,.two (Iz hs) h h1,h2⟩
end
section
variable[D:DR]
variable{P:Program}{w0:an P}{H0:HV}{N:Nat}{ops:Array Oper}{Γ ay fD:Ctx}{l:List Oper}{d:Nat}{op:Op}{ty:TypeId}{pos:String}{af:Array Edge}{K:Ctx->Prop}{Q:Exit->Act->World->Prop}
def aa7(ops:asv Oper):asv (asv Nat):=ops.foldl (fun av o=>av++[(List.range av.length).filter fun j=>(Da o).any fun e=>e.on==j||(av.getD e.on []).contains j]) []
def DE(P:ast)(w0:an P)(N:Nat)(ops:asv Oper)(k:Nat)(Γ:Ctx)(K:Ctx->Prop)(jb:asv (asv Nat))(ja:asv Bool)(S:asv Ctx):Prop:=
 ∃ts DN,(B4 ops.toArray (aa7 ops)&&S4 k (S.reverse.map Gf) jb ja (sF Γ) (aa7 ops)&&yL ops.toArray k (aa7 ops))=true/\Tk (S.flatten++Γ) ts=some DN/\CK P w0 N ops.toArray (ops.drop k) DN K
def dE{jb:asv (asv Nat)}{ja:asv Bool}{S:asv Ctx}{k:Nat}{DN:Ctx}(ts:asv Nat)(hs:Tk (S.flatten++Γ) ts=some DN)(hc:(B4 l.toArray (aa7 l)&&S4 k (S.reverse.map Gf) jb ja (sF Γ) (aa7 l)&&yL l.toArray k (aa7 l))=true)(r:CK P w0 N l.toArray (l.drop k) DN K):DE P w0 N l k Γ K jb ja S:=⟨ts,DN,hc,hs,r⟩
def gD{id:Nat}(k:Nat)(hm:P.follows .mixedOrders=true)(r:ck (pU l) (PK P N l.toArray Γ [] (l.take k)<|DE P w0 N l k Γ fun ay=>me w0 H0 N (Q .normal) ay)):Goal P w0 H0 N (.region id l.toArray true) Q Γ:=by
 obtain⟨gS,n,p,S,h1,ts,DN,hc,hs,ay,h2,h3⟩:=ck_ r;exact SZ (k:=k) gS _ _ _ _ _ hm hc h1 rfl rfl (Iz hs) h2 h3
def gE{id:Nat}{y:Code}(k:Nat)(hm:P.follows .mixedOrders=true)(r:ck (pU l) (PK P N l.toArray Γ [] (l.take k)<|DE P w0 N l k Γ fun ay=>Goal P w0 H0 N y Q ay)):Goal P w0 H0 N (.seq (.region id l.toArray true) y) Q Γ:=
 ae (gD k hm (by
  obtain⟨gS,r⟩:=ck_ r;rw[gS];obtain⟨n,p,S,h1,ts,DN,hc,hs,ay,h2,h3⟩:=r;exact⟨n,p,S,h1,ts,DN,hc,hs,ay,h2,ar h3⟩))
end
section
variable[D:DR]
variable{P:Program}{w0:an P}{H0:HV}{N:Nat}{ops:Array Oper}{Γ ay fD:Ctx}{l:List Oper}{d:Nat}{op:Op}{ty:TypeId}{pos:String}{af:Array Edge}{K:Ctx->Prop}{Q:Exit->Act->World->Prop}
variable{x y:Operand}{t t':Nat}{T T':TypeId}{τ σ:Ty}{k:IntKind}{m n:Int}{b e:Bool}{g:Option (Nat×Bool)}{dd:Option Tmp}
variable{sz:Nat}{ps:asv (Nat×asu)}{l':asv Ty}
def aT(h:look Γ t=some (.val τ)):Arg Γ (.tmp t) τ:= .t h
def aI:Arg Γ (.const<| .int k n) (TI k n):= .int
def aB:Arg Γ (.const<| .bool b) (aZ b):= .bool
def sS(ts:asv Nat)(h:Tk Γ ts=some ay):vi Γ ts ay:=Iz h
def oM(h:look Γ t=some (.val τ)):bK P Γ ⟨dd,.move<| .tmp t,ty,pos,af,g⟩ (.val τ):=IV<| .t h
def oA(h:look Γ t=some (.val τ)):bK P Γ ⟨dd,.assign<| .tmp t,ty,pos,af,g⟩ (.val τ):=aC<| .t h
def iO{i:Int}{len:Nat}(h:look Γ t=some (.own T' τ))(hT:zT P T len sz=true)(hc:(decide (0<=i)&&decide (i<(len:Int)))=true):bK P Γ ⟨dd,.indexAddr T (.tmp t)<| .const<| .int k i,ty,pos,af,g⟩ (.ptr t<|i.toNat*sz):=by
 rw[cW,zI,zI] at hc;exact IW h hT .int hc.1 hc.2
def QV(Γ:Ctx):asv (Nat×asu)->asv Ty->auz (asv Ty)
 |[],l=>some l
 |(i,x)::ps,l=>match Qu Γ [x],l[i]? with
  |some [σ],some τ=>match Nat.beq σ.n τ.n with
   |true=>QV Γ ps<|l.set i σ
   |false=>none
  |_,_=>none
def pV{Γ:Ctx}:∀{ps:asv (Nat×asu)} {l l':asv Ty},QV Γ ps l=some l'->fO P Γ ps l l'
 |[],_,_,h=>by cases h;exact .nil
 |(i,x)::ps,l,l',h=>by
  unfold QV at h;split at h
  ·rename_i σ τ h1 h2;split at h
   ·rename_i h3;cases VC h1 with
    |cons ha _=>exact .cons ha h2 (fX h3)<|pV h
   ·cases h
  ·cases h
def bB{l:asv Ty}(hz:bL P T (gn l))(hT:jI P T (qH l)=true)(hp:QV Γ ps l=some l'):bK P Γ ⟨dd,.build T ps.toArray,ty,pos,af,g⟩ (.val<|gn l'):=Ey hz hT<|pV hp
def bA{n:Nat}{l:asv Ty}(hz:bL P T (gn l))(hT:zT P T n sz=true)(hu:(l.all fun τ=>Nat.beq τ.n sz)=true)(hp:QV Γ ps l=some l'):bK P Γ ⟨dd,.build T ps.toArray,ty,pos,af,g⟩ (.val<|gn l'):=
 om hz hT (fun τ h=>fX<|dC.1 hu τ h) (pV hp)
def bS{E:asr}{n:Nat}(hz:bL P E τ)(hT:pM P T E sz=true)(hp:QV Γ ps (List.replicate n τ)=some l')(hc:(Nat.beq τ.n sz&&(Nat.blt 0 (n*sz)&&(Nat.ble (n*sz) 16777216&&Nat.beq l'.length n)))=true):bK P Γ ⟨dd,.buildSlice T n ps.toArray,ty,pos,af,g⟩ (.val<|J5 l'):=by
 simp only[cW] at hc;exact A7 hz hT (fX hc.1) hc.2.1 hc.2.2.1 (pV hp)<|fX hc.2.2.2
def cs(ht:look Γ t=some (.own T' τ))(hx:look Γ t'=some (.val σ))(hn:σ.n=τ.n)(hT:eG P T σ.n σ.agg=true)(r:CK P w0 N ops l ((t,.own T' σ)::bQ t Γ) K):CK P w0 N ops (⟨none,.store T (.tmp t)<| .tmp t',ty,pos,af,none⟩::l) Γ K:=cS (tP ht (.t hx) hn hT) r
def ds(ht:look Γ t=some (.own T' τ))(hx:look Γ t'=some (.val σ))(hn:σ.n=τ.n)(hT:eG P T σ.n σ.agg=true):Qw P N ops Γ ⟨none,.store T (.tmp t)<| .tmp t',ty,pos,af,none⟩ t (.own T' σ):=Qc ht (.t hx) hn hT
def ov(t:Nat){s:bN}(h:look Γ t=some s)(r:Di Γ e ay):Di Γ e ((t,s)::ay):= .v h r
def oo(t:Nat){s:bN}{c:Bool}(h:look Γ t=some (.opt c s))(k:e=true->c=true)(r:Di Γ e ay):Di Γ e ((t,s)::ay):= .o h k r
def on:Di Γ e []:= .nil
end
section
variable[D:DR]
variable{P:Program}{w0:an P}{H0:HV}{N:Nat}{ops:Array Oper}{Γ ay fD:Ctx}{l:List Oper}{d:Nat}{op:Op}{ty:TypeId}{pos:String}{af:Array Edge}{K:Ctx->Prop}{Q:Exit->Act->World->Prop}
variable{α β γ δ ε ζ ρ:Type}{r:ρ}{e:Option α}{f:α->Option β}{g:α->β->Option γ}{h:α->β->γ->Option δ}{i:α->β->γ->δ->Option ε}{j:α->β->γ->δ->ε->Option ζ}
def b2{K:α->β->auz ρ}(q:(bd e fun x=>bd (f x)<|K x)=some r):∃x,e=some x/\∃y,f x=some y/\K x y=some r:=by
 obtain⟨x,h1,q⟩:=aA q;obtain⟨y,h2,q⟩:=aA q;exact⟨x,h1,y,h2,q⟩
def b3{K:α->β->γ->auz ρ}(q:(bd e fun x=>bd (f x) fun y=>bd (g x y)<|K x y)=some r):∃x,e=some x/\∃y,f x=some y/\∃z,g x y=some z/\K x y z=some r:=by
 obtain⟨x,h1,y,h2,q⟩:=b2 q;obtain⟨z,h3,q⟩:=aA q;exact⟨x,h1,y,h2,z,h3,q⟩
def b4{K:α->β->γ->δ->auz ρ}(q:(bd e fun x=>bd (f x) fun y=>bd (g x y) fun z=>bd (h x y z)<|K x y z)=some r):∃x,e=some x/\∃y,f x=some y/\∃z,g x y=some z/\∃u,h x y z=some u/\K x y z u=some r:=by
 obtain⟨x,h1,y,h2,z,h3,q⟩:=b3 q;obtain⟨u,h4,q⟩:=aA q;exact⟨x,h1,y,h2,z,h3,u,h4,q⟩
def b5{K:α->β->γ->δ->ε->auz ρ}(q:(bd e fun x=>bd (f x) fun y=>bd (g x y) fun z=>bd (h x y z) fun u=>bd (i x y z u)<|K x y z u)=some r):∃x,e=some x/\∃y,f x=some y/\∃z,g x y=some z/\∃u,h x y z=some u/\∃v,i x y z u=some v/\K x y z u v=some r:=by
 obtain⟨x,h1,y,h2,z,h3,u,h4,q⟩:=b4 q;obtain⟨v,h5,q⟩:=aA q;exact⟨x,h1,y,h2,z,h3,u,h4,v,h5,q⟩
def b6{K:α->β->γ->δ->ε->ζ->auz ρ}(q:(bd e fun x=>bd (f x) fun y=>bd (g x y) fun z=>bd (h x y z) fun u=>bd (i x y z u) fun v=>bd (j x y z u v)<|K x y z u v)=some r):∃x,e=some x/\∃y,f x=some y/\∃z,g x y=some z/\∃u,h x y z=some u/\∃v,i x y z u=some v/\∃w,j x y z u v=some w/\K x y z u v w=some r:=by
 obtain⟨x,h1,y,h2,z,h3,u,h4,v,h5,q⟩:=b5 q;obtain⟨w,h6,q⟩:=aA q;exact⟨x,h1,y,h2,z,h3,u,h4,v,h5,w,h6,q⟩
end
section
variable[D:DR]
variable{P:Program}{w0:an P}{H0:HV}{N:Nat}{ops:Array Oper}{Γ ay fD:Ctx}{l:List Oper}{d:Nat}{op:Op}{ty:TypeId}{pos:String}{af:Array Edge}{K:Ctx->Prop}{Q:Exit->Act->World->Prop}
variable{α β γ δ ε ζ ρ:Type}{r:ρ}{e:Option α}{f:α->Option β}{g:α->β->Option γ}{h:α->β->γ->Option δ}{i:α->β->γ->δ->Option ε}{j:α->β->γ->δ->ε->Option ζ}
variable{P:Program}{w0:an P}{H0:HV}{N:Nat}{c:Code}{Q:Exit->Act->World->Prop}{Γ:Ctx}
def ba{e:auz α}{K:α->auz ρ}(q:bd e K=some r)(k:∀x,e=some x->K x=some r->Goal P w0 H0 N c Q Γ):Goal P w0 H0 N c Q Γ:=by
 obtain⟨x,h,q⟩:=aA q;exact k x h q
def kO{b:Bool}{d:α}{e:auz α}{K:α->auz ρ}(q:fT b d e K=some r)(k:∀x,(b=true->e=some x)->K x=some r->Goal P w0 H0 N c Q Γ):Goal P w0 H0 N c Q Γ:=by
 obtain⟨x,h,q⟩:=pW q;exact k x h q
def gcI{b:Bool}{K:auz ρ}(q:gC b K=some r)(k:b=true->K=some r->Goal P w0 H0 N c Q Γ):Goal P w0 H0 N c Q Γ:=k (wL q).1 (wL q).2
def jU{K:α->β->auz ρ}(q:(bd e fun x=>bd (f x)<|K x)=some r)(k:∀x,e=some x->∀y,f x=some y->K x y=some r->Goal P w0 H0 N c Q Γ):Goal P w0 H0 N c Q Γ:=
 ba q fun x h1 q=>ba q fun y h2 q=>k x h1 y h2 q
def oK{K:α->β->γ->auz ρ}(q:(bd e fun x=>bd (f x) fun y=>bd (g x y)<|K x y)=some r)(k:∀x,e=some x->∀y,f x=some y->∀z,g x y=some z->K x y z=some r->Goal P w0 H0 N c Q Γ):Goal P w0 H0 N c Q Γ:=
 jU q fun x h1 y h2 q=>ba q fun z h3 q=>k x h1 y h2 z h3 q
def LF{K:α->β->γ->δ->auz ρ}(q:(bd e fun x=>bd (f x) fun y=>bd (g x y) fun z=>bd (h x y z)<|K x y z)=some r)(k:∀x,e=some x->∀y,f x=some y->∀z,g x y=some z->∀u,h x y z=some u->K x y z u=some r->Goal P w0 H0 N c Q Γ):Goal P w0 H0 N c Q Γ:=
 oK q fun x h1 y h2 z h3 q=>ba q fun u h4 q=>k x h1 y h2 z h3 u h4 q
def Ts{K:α->β->γ->δ->ε->auz ρ}(q:(bd e fun x=>bd (f x) fun y=>bd (g x y) fun z=>bd (h x y z) fun u=>bd (i x y z u)<|K x y z u)=some r)(k:∀x,e=some x->∀y,f x=some y->∀z,g x y=some z->∀u,h x y z=some u->∀v,i x y z u=some v->K x y z u v=some r->Goal P w0 H0 N c Q Γ):Goal P w0 H0 N c Q Γ:=
 LF q fun x h1 y h2 z h3 u h4 q=>ba q fun v h5 q=>k x h1 y h2 z h3 u h4 v h5 q
def S8{K:α->β->γ->δ->ε->ζ->auz ρ}(q:(bd e fun x=>bd (f x) fun y=>bd (g x y) fun z=>bd (h x y z) fun u=>bd (i x y z u) fun v=>bd (j x y z u v)<|K x y z u v)=some r)(k:∀x,e=some x->∀y,f x=some y->∀z,g x y=some z->∀u,h x y z=some u->∀v,i x y z u=some v->∀w,j x y z u v=some w->K x y z u v w=some r->Goal P w0 H0 N c Q Γ):Goal P w0 H0 N c Q Γ:=
 Ts q fun x h1 y h2 z h3 u h4 v h5 q=>ba q fun w h6 q=>k x h1 y h2 z h3 u h4 v h5 w h6 q
end
section
variable[D:DR]
variable{P:Program}{w0:an P}{H0:HV}{N:Nat}{ops:Array Oper}{Γ ay fD:Ctx}{l:List Oper}{d:Nat}{op:Op}{ty:TypeId}{pos:String}{af:Array Edge}{K:Ctx->Prop}{Q:Exit->Act->World->Prop}
variable{t:Nat}{x y:Code}{b:Bool}{ρ α:Type}{r:ρ}
def gc{X Y:auz ρ}(hl:look Γ t=some (.val<|aZ b))(hm:cond b X Y=some r)(hx:b=true->X=some r->Goal P w0 H0 N x Q Γ)(hy:b=false->Y=some r->Goal P w0 H0 N y Q Γ):Goal P w0 H0 N (.cond (.tmp t) x y) Q Γ:=
 sY hl (fun h=>hx h<|aj3 hm h) (fun h=>hy h<|aj4 hm h)
def cm{Ng:α->Ctx}{k:α->auz ρ}{i:α}(hm:k i=some r)(h:Tk Γ ((Ng i).map (·.1))=some (Ng i)):me w0 H0 N (fun a w=>Mid w0 H0 N Ng k r a w) Γ:=anf hm<|Iz h
def gl{σ:Type}(dz:σ->Ctx){n:Nat}{B:(σ->auz ρ)->σ->auz ρ}{s0:σ}{c:Code}(hm:lp n B s0=some r)(h0:Tk Γ ((dz s0).map (·.1))=some (dz s0))
  (round:∀(k:σ->auz ρ) (s:σ),B k s=some r->Goal P w0 H0 N c (Exit.then (Mid w0 H0 N dz k r) Q) (dz s)):Goal P w0 H0 N (.loop c) Q Γ:=adI dz hm (Iz h0) round
end
section
variable[D:DR]
variable{P:Program}{w0:an P}{H0:HV}{N:Nat}{ops:Array Oper}{Γ ay fD:Ctx}{l:List Oper}{d:Nat}{op:Op}{ty:TypeId}{pos:String}{af:Array Edge}{K:Ctx->Prop}{Q:Exit->Act->World->Prop}
variable{f:FuncId}{fn:Func}{t t' T:Nat}{T':TypeId}{τ Fc σ σ':Ty}{Q:Exit->Act->World->Prop}
def dp{c:Code}{args:asv Ty}{dq:Ze}{N:Nat}(hf:P.funcs[f]? =some fn)(hb:(fn.body,fn.ntmps)=(some c,N))(hc:(eN P f&&Nat.ble args.length N)=true)
  (h:∀{w0 H0},Goal P (an.call P w0) H0 N c (Dj P fn (an.call P w0) H0 dq)<|lQ 0 args):fC P f args dq:=by
 rw[cW] at hc;rw[Jo] at hb;exact Wb hf hb.1 hb.2 (gP hc.2) hc.1 fun _ _=>h
def r1(h:(((w0.X,w0.Qa,w0.ds,w0.rd),fn.results),look Γ t)=(((Tl,false,[],none),[.tmp t].toArray),some<| .val τ)):me w0 H0 N (fun a w=>Dj P fn w0 H0 (.vs [τ]) .ret a w) Γ:=by
 simp only[Jo] at h;exact gp (by simp only[h]) h.1.2<| .tmp h.2 rfl .nil
def eS{ρ:Type}{r x:ρ}{F:ρ->Ty}(q:some x=some r)(h:(((w0.X,w0.Qa,w0.ds,w0.rd),fn.results),look Γ t)=(((Tl,false,[],none),[.tmp t].toArray),some<| .val<|F x)):me w0 H0 N (fun a w=>Dj P fn w0 H0 (.vs [F r]) .ret a w) Γ:=by
 cases q;exact r1 h
def r2(h:(((w0.X,w0.Qa,w0.ds,w0.rd),fn.results),look Γ t,look Γ t')=(((Tl,false,[],none),[.tmp t,.tmp t'].toArray),some<| .val τ,some<| .val σ)):me w0 H0 N (fun a w=>Dj P fn w0 H0 (.vs [τ,σ]) .ret a w) Γ:=by
 simp only[Jo] at h;exact gp (by simp only[h]) h.1.2<| .tmp h.2.1 rfl<| .tmp h.2.2 rfl .nil
def q1(h:(((w0.X,w0.Qa,w0.ds,w0.rd),fn.results),look Γ t)=(((Tl,false,[],none),[.cell t T].toArray),some<| .own T' τ))(hT:eG P T τ.n τ.agg=true):me w0 H0 N (fun a w=>Dj P fn w0 H0 (.vs [τ]) .ret a w) Γ:=by
 simp only[Jo] at h;exact gp (by simp only[h]) h.1.2<| .cell h.2 (qf hT) rfl .nil
def mE{ρ:Type}{r x:ρ}{F:ρ->Ty}(q:some x=some r)(h:(((w0.X,w0.Qa,w0.ds,w0.rd),fn.results),look Γ t)=(((Tl,false,[],none),[.cell t T].toArray),some<| .own T'<|F x))(hT:eG P T (F x).n (F x).agg=true):me w0 H0 N (fun a w=>Dj P fn w0 H0 (.vs [F r]) .ret a w) Γ:=by
 cases q;exact q1 h hT
end
section
variable[D:DR]
variable{P:Program}{w0:an P}{H0:HV}{N:Nat}{ops:Array Oper}{Γ ay fD:Ctx}{l:List Oper}{d:Nat}{op:Op}{ty:TypeId}{pos:String}{af:Array Edge}{K:Ctx->Prop}{Q:Exit->Act->World->Prop}
variable{t d' k' off:Nat}{T T' T2 Qb:TypeId}{σ:Ty}{L:List Ty}{pos':String}{Qv:Array Edge}{acc:List Ctx}{R:List (List Nat)->List Bool->List Ctx->Prop}
def Jj{Γ:Ctx}{t:Nat}{s:bN}:look ((t,s)::Γ) t=some s:=by simp[look]
def Sv{Γ:Ctx}{d t:Nat}{s s':bN}(h:Nat.beq d t=false)(k:look Γ t=some s'):look ((d,s)::Γ) t=some s':=by
 unfold look;rw[h];exact k
def jt(i:Nat)(h:look Γ t=some (.own T'<|gn L))(hf:jO P T k' off=true)(h1:pick L i off=some σ)(hT:eG P T2 σ.n σ.agg=true)(r:ck (fr N d (.ptr t off) Γ&&(!Nat.beq d t&&fr N d' (.val σ) ((d,.ptr t off)::Γ))) (CK P w0 N ops l ((d',.val σ)::(d,.ptr t off)::Γ) K)):
  CK P w0 N ops (⟨some d,.fieldAddr T (.tmp t) k',ty,pos,af,none⟩::⟨some d',.load T2<| .tmp d,Qb,pos',Qv,none⟩::l) Γ K:=by
 obtain⟨hb,hk⟩:=ck_ r;simp only[cW,jj] at hb;refine cP (aO h hf) ?_;rw[hb.1];refine cP (cr Jj (Sv hb.2.1 h) (ace h1) hT) ?_;rw[hb.2.2];exact hk
def dQ(i:Nat)(h:look (acc.flatten++Γ) t=some (.own T'<|gn L))(hf:jO P T k' off=true)(h1:pick L i off=some σ)(hT:eG P T2 σ.n σ.agg=true)(r:ck (Nat.blt d N&&(Nat.blt d' N&& !Nat.beq d t)) (PK P N ops Γ ([(d',.val σ)]::[(d,.ptr t off)]::acc) l fun n p S=>R ([t]::[d,t]::n) (true::true::p) S)):
  PK P N ops Γ acc (⟨some d,.fieldAddr T (.tmp t) k',ty,pos,af,none⟩::⟨some d',.load T2<| .tmp d,Qb,pos',Qv,none⟩::l) R:=by
 obtain⟨hb,n,p,S,k1,k2⟩:=ck_ r;simp only[cW,jj] at hb;have e:look (([(d,bN.ptr t off)]::acc).flatten++Γ) d=some (.ptr t off):=by simpa using Jj
 have e':look (([(d,bN.ptr t off)]::acc).flatten++Γ) t=some (.own T'<|gn L):=by simpa using Sv hb.2.2 h
 exact⟨_,_,S,.cons (.cons h .nil) (aO Jj hf) rfl rfl (cq hb.1)<| .cons (.cons e<| .cons e' .nil) (cr Jj (Sv hb.2.2 Jj) (ace h1) hT) rfl rfl (cq hb.2.1) k1,k2⟩
end
section
variable[D:DR]
variable{P:Program}{w0:an P}{H0:HV}{N:Nat}{ops:Array Oper}{Γ ay fD:Ctx}{l:List Oper}{d:Nat}{op:Op}{ty:TypeId}{pos:String}{af:Array Edge}{K:Ctx->Prop}{Q:Exit->Act->World->Prop}
variable{ρ:Type}{r:ρ}
def afB{A B:Ctx}{ts us:asv Nat}(h:vi Γ ts A)(k:vi Γ us B):vi Γ (ts++us) (A++B):=by
 induction h with
 |nil=>exact k
 |cons h _ ih=>exact .cons h ih
def jE{σ:Type}(ks:asv Nat){Γ0:Ctx}(hk:Tk Γ ks=some Γ0)(dz:σ->Ctx){n:Nat}{B:(σ->auz ρ)->σ->auz ρ}{s0:σ}{c:Code}(hm:lp n B s0=some r)(h0:Tk Γ ((dz s0).map (·.1))=some (dz s0))
  (round:∀(k:σ->auz ρ) (s:σ),B k s=some r->Goal P w0 H0 N c (Exit.then (Mid w0 H0 N (fun s=>dz s++Γ0) k r) Q) (dz s++Γ0)):Goal P w0 H0 N (.loop c) Q Γ:=adI (fun s=>dz s++Γ0) hm (afB (Iz h0)<|Iz hk) round
def uS{α:Type}(ks:asv Nat){Γ0:Ctx}(hk:Tk Γ ks=some Γ0)(Ng:α->Ctx){K:α->auz ρ}{E:(α->auz ρ)->auz ρ}{x:Code}(hm:jn K E=some r)
  (h:∀k,E k=some r->Goal P w0 H0 N x (Exit.then (Mid w0 H0 N (fun s=>Ng s++Γ0) k r) Q) Γ)(kk:∀i,K i=some r->me w0 H0 N (Q .normal) (Ng i++Γ0)):Goal P w0 H0 N x Q Γ:=ER (fun s=>Ng s++Γ0) hm h kk
end
section
variable{α:Type}{c:α->α->Option Int}
def qm{α ρ:Type}{e:auz α}{K:α->auz ρ}{r:ρ}(h:bd e K=some r):∃x,e=some x/\K x=some r:=by
 cases e with
 |none=>cases h
 |some x=>exact⟨x,rfl,h⟩
def FT:∀{l r:asv α} {x:α},U4 c x l=some r->r.Perm (x::l)
 |[],r,x,h=>by cases h;exact .refl _
 |y::l,r,x,h=>by
  obtain⟨k,_,h⟩:=qm h;cases hb:decide (k<0) with
  |true=>
   rw[hb] at h;obtain⟨r',hr,h⟩:=qm (K:=fun r=>some (y::r)) h;cases h;exact((FT hr).cons y).trans<| .swap x y l
  |false=>
   rw[hb] at h;have h:some (x::y::l)=some r:=h;cases h;exact .refl _
def Rb:∀(l:asv α) (s r:asv α),KH l (fun next x s=>bd (U4 c x s) next) s (fun s=>some s.reverse)=some r->r.Perm (s++l)
 |[],s,r,h=>by
  have h:some s.reverse=some r:=h;cases h;simpa using s.reverse_perm
 |x::l,s,r,h=>by
  obtain⟨s',hs,h⟩:=qm h;refine(Rb l s' r h).trans ?_;refine((FT hs).append_right l).trans ?_;exact List.perm_middle.symm
def Lu{l r:asv α}(h:WS c l=some r):r.Perm l:=by
 simpa using Rb l [] r h
end
section
variable{α:Type}[DecidableEq α]{c:α×α->Option Int}
variable{s:asv α}
def Rp:∀{l:asv α} {x:α},ag9 c x l=true->∀y∈l,x=y\/∃i j,c (x,y)=some i/\c (y,x)=some j/\i<0/\0<=j
 |[],_,_,y,hy=>by cases hy
 |z::l,x,h,y,hy=>by
  unfold ag9 at h;rw[cW] at h;rcases bP.1 hy with e|hy
  ·subst e;cases hd:decide (x=y) with
   |true=>exact .inl<|bg hd
   |false=>
    rw[hd] at h;refine .inr ?_;have h:=h.1;simp only[fA] at h;split at h
    ·rename_i i j e1 e2;rw[cW,j4,j4] at h;exact⟨i,j,e1,e2,h.1,h.2⟩
    ·cases h
  ·exact Rp h.2 y hy
def HM:∀{s:asv α},JX c s=true->(∀x∈s,∃i,c (x,x)=some i/\0<=i)/\s.Pairwise fun x y=>x=y\/∃i j,c (x,y)=some i/\c (y,x)=some j/\i<0/\0<=j
 |[],_=>⟨fun x h=>(by cases h),.nil⟩
 |x::s,h=>by
  unfold JX at h;rw[cW,cW] at h;obtain⟨h1,h2,h3⟩:=h;obtain⟨k1,k2⟩:=HM h3;refine⟨fun y hy=>?_,.cons (Rp h2) k2⟩;rcases bP.1 hy with e|hy
  ·subst e;split at h1
   ·rename_i i e;exact⟨i,e,bg h1⟩
   ·cases h1
  ·exact k1 y hy
def SL{x:α}(h:x∈s):∃hl:s.idxOf x<s.length,s[s.idxOf x]=x:=
 ⟨List.idxOf_lt_length_iff.2 h,List.getElem_idxOf _⟩
def IN(h:JX c s=true){x y:α}(hx:x∈s)(hy:y∈s){v:Int}(hv:c (x,y)=some v):v<0↔s.idxOf x<s.idxOf y:=by
 obtain⟨k1,k2⟩:=HM h;obtain⟨lx,ex⟩:=SL hx;obtain⟨ly,ey⟩:=SL hy;have pw:=M1.1 k2;rcases Nat.lt_trichotomy (s.idxOf x) (s.idxOf y) with hlt|heq|hgt
 ·have:=pw _ _ lx ly hlt;rw[ex,ey] at this;rcases this with e|⟨i,j,e1,e2,h1,h2⟩
  ·subst e;omega
  ·rw[hv] at e1;cases e1;exact⟨fun _=>hlt,fun _=>h1⟩
 ·have:x=y:=by rw[<-ex,<-ey];congr 1
  subst this;obtain⟨i,e,hi⟩:=k1 x hx;rw[hv] at e;cases e;omega
 ·have:=pw _ _ ly lx hgt;rw[ex,ey] at this;rcases this with e|⟨i,j,e1,e2,h1,h2⟩
  ·subst e;omega
  ·rw[hv] at e2;cases e2;omega
def T0(h:JX c s=true):s.Pairwise fun x y=>s.idxOf x<=s.idxOf y:=by
 obtain⟨k1,k2⟩:=HM h;refine M1.2 fun i j hi hj VU=>?_
 rcases M1.1 k2 i j hi hj VU with e|⟨a,b,e1,e2,h1,h2⟩
 ·rw[e];exact bG _
 ·have:=(IN h (rp hi) (rp hj) e1).1 h1;omega
def QJ{r:asv α}(h:JX c s=true)(hp:r.Perm s)(hr:r.Pairwise fun x y=>s.idxOf x<=s.idxOf y):r=s:=by
 refine List.Perm.eq_of_pairwise (le:=fun x y=>s.idxOf x<=s.idxOf y) ?_ hr (T0 h) hp;intro a b ha hb h1 h2;obtain⟨la,ea⟩:=SL<|hp.mem_iff.1 ha
 obtain⟨lb,eb⟩:=SL hb;have e:s.idxOf a=s.idxOf b:=by omega
 rw[<-ea,<-eb]
 congr 1
def wS{l:asv α}(h:iq l c=some s):s.Perm l/\JX c s=true/\(∀x∈l,∀y∈l,∃v,c (x,y)=some v)/\l.length<4611686018427387904:=by
 obtain⟨s',hs,h⟩:=qm h;unfold z7 at h;cases hb:Nat.blt l.length 4611686018427387904&&(totB c l&&JX c s') with
 |false=>rw[hb] at h;cases h
 |true=>
  rw[hb] at h;cases h;rw[cW,cW] at hb;refine⟨Lu hs,hb.2.2,fun x hx y hy=>?_,gP hb.1⟩;have:=dC.1 hb.2.1 x hx;have:=dC.1 this y hy;exact Option.isSome_iff_exists.1 this
end
def O{α:Sort _}{a:α}:a=a:=rfl
def eE{α:Type}{f:α->Ty}{sz:Nat}(h:(fun z=>(f z).n)=fun _=>sz):∀z,(f z).n=sz:=congrFun h
abbrev TiZ(n:Int):Ty:=TI .i64 n
abbrev aev:=List UInt8
abbrev auw:=aev×aev×aev
end Trn
