/-
  Part of the proof of SolidNormals.
-/
import Derived.Test.YtflhfjdapojoiaaGreatDoorLc
set_option maxRecDepth 100000
set_option maxHeartbeats 20000000
set_option linter.all false
open Go Go.RowKit Go.Proofs Go.Proofs.Tryz
namespace Trn
section
variable{l:att bV}
theorem xP.text{h:bV}(o:xP h):mL (rh h)=some (h,true):=by
 have key:Yd (fun r=>r=(h,true)) (mL<|rh h):=by
  have one:∀{z:Int},z=1->uC z=true:=fun e=>by rw[e];rfl
  have r1:rh h=(((h.1.1:Rat),(h.1.2.1:Rat),(h.1.2.2:Rat)),(rh h).2):=rfl;have ab:∀{x:Int},p7 x=false->x.natAbs<=999999999:=fun hx=>by have:=AI hx;omega
  have afd:∀{x:Rat},lv 14 x->x.num.natAbs<10^600/\x.den<10^600:=fun hx=>by
   have:=D6 hx;have p:∀a b:Nat,a<=b->(10:Nat)^a<=10^b:=fun a b h=>pX (by omega) h
   have e:=p (14+1) 600 (by omega);exact⟨nT this.1 e,nT this.2 e⟩
  have norm:Yd (fun r=>r=rh h) (kG<|rh h):=by
   unfold kG;refine Yd.bd (x:=1) rfl ?_;refine Yd.each [h.1.1,h.1.2.1,h.1.2.2] (fun(s:Int) i=>(s,i)) (fun A s=>s=1) (fun A x C s k hA hP next=>?_) (fun s k hP=>?_) (s0:=1) rfl (by simp)
   ·have al:=jm hA;rw[show [h.1.1,h.1.2.1,h.1.2.2].length=3 from rfl] at al;dsimp only;rw[aW (show(A.length:Int)<3 by omega),bD];have ix:bo [(rh h).1.1,(rh h).1.2.1,(rh h).1.2.2] (A.length:Int)=some (x:Rat):=by
     have ix:=fp hA;rw[Io] at ix⊢;have:=congrArg (Option.map (fun x:Int=>(x:Rat))) ix;rwa [<-kD] at this
    subst hP;have dn:(((x:Rat).den:Nat):Int)=1:=by rw[EU];rfl
    refine Yd.bd ix ?_;rw[dn];exact Yd.bd (x:=1) rfl (Yd.bd (x:=1) rfl (Yd.bd (x:=1) rfl (Yd.bd (fF hA (by simp))<|next 1 rfl)))
   ·dsimp only;rw[show decide ((([h.1.1,h.1.2.1,h.1.2.2].length:Nat):Int)<3)=false from rfl,a8,hP];refine Yd.bd (x:=(1:Rat)) rfl<|Yd.bd (x:=0) rfl ?_
    refine Yd.each [h.1.1,h.1.2.1,h.1.2.2] (fun(s:Int) i=>(s,i)) (fun A s=>s=((A.foldl (fun g x=>Nat.gcd g x.natAbs) 0:Nat):Int)) (fun A x C s k hA hP next=>?_) (fun s k hP=>?_) (s0:=0) rfl (by simp)
    ·have al:=jm hA;rw[show [h.1.1,h.1.2.1,h.1.2.2].length=3 from rfl] at al;dsimp only;rw[aW (show(A.length:Int)<3 by omega),bD];have ix:bo [(rh h).1.1,(rh h).1.2.1,(rh h).1.2.2] (A.length:Int)=some (x:Rat):=by
      have ix:=fp hA;rw[Io] at ix⊢;have:=congrArg (Option.map (fun x:Int=>(x:Rat))) ix;rwa [<-kD] at this
     have fx:∀y∈[h.1.1,h.1.2.1,h.1.2.2],p7 y=false:=by
      intro y my;simp at my;rcases my with rfl|rfl|rfl
      ·exact o.x
      ·exact o.y
      ·exact o.z
     have hx:=fx x<|at_mem hA
     have gl:A.foldl (fun g x=>Nat.gcd g x.natAbs) 0<=999999999:=by
      have:∀(l:att Int) (g:Nat),g<=999999999->(∀y∈l,p7 y=false)->l.foldl (fun g x=>Nat.gcd g x.natAbs) g<=999999999:=by
       intro l
       induction l with
       |nil=>intro g hg _;exact hg
       |cons y l ih=>
        intro g hg hl;refine ih _ ?_ fun z mz=>hl z<|cW _ mz
        have:=ab<|hl y gJ
        rcases r9 g with e|e
        ·subst e;show Nat.gcd 0 y.natAbs<=_;rw[EY];exact this
        ·exact df (Nat.gcd_le_left _ e) hg
      exact this A 0 (by omega) fun y my=>fx y (by rw[hA];simp[my])
     have q1:uh (x:Rat) 1=some (x:Rat):=by
      have o9:lv 9 (1:Rat):=o8 (d:=1) (.inl rfl) 9;rw[HJ (Rx hx<|bp 9) o9 (by omega) (by omega)]
      congr 1;show(x:Rat)*1=x;grind
     refine Yd.bd ix (Yd.bd q1 (Yd.bd (x:=(x.natAbs:Int)) (by rw[Ap];rfl) (Yd.bd (x:=((Nat.gcd (A.foldl (fun g x=>Nat.gcd g x.natAbs) 0) x.natAbs:Nat):Int)) ?_ (Yd.bd (fF hA (by simp))<|next _ ?_))))
     ·unfold Oc;rw[hP,KX (by rw[iU];omega),KX (by rw[iU];have:=ab hx;omega)];rfl
     ·rw[List.foldl_append];rfl
    ·dsimp only;rw[show decide ((([h.1.1,h.1.2.1,h.1.2.2].length:Nat):Int)<3)=false from rfl,a8];have g1:s=1:=by
      rw[hP];show((Nat.gcd (Nat.gcd (Nat.gcd 0 _) _) _:Nat):Int)=_;rw[EY];have:=o.g;unfold xv at this;rw[this];rfl
     rw[g1];have l1:lv 14 (1:Rat):=o8 (d:=1) (.inl rfl) 14;have e1:ik (rh h).1 1=(rh h).1:=lW (by simp only[ik];grind) (by simp only[ik];grind) (by simp only[ik];grind);refine Yd.bd (x:=(1:Rat)) rfl (Yd.bd (x:=(1:Rat)) ?_ (Yd.bd (Pk (o.lvn (n:=14) (by omega)) l1 (by omega) (by omega)).1 (Yd.bd (HJ o.Rw l1 (by omega) (by omega))<|Yd.mk ?_)))
     ·rw[(ab5 l1 l1 (by omega) (by omega) (by show(1:Rat)≠0;grind)).1]
      congr 1;grind
     ·refine Prod.ext ?_ ?_
      ·exact e1
      ·show(rh h).2*1=(rh h).2;grind
  obtain⟨r,n1,rfl⟩:=norm;unfold mL;refine Yd.bd n1<|Yd.bd (aam (afd o.Rw).1 (afd o.Rw).2) ?_
  rw[<-o.txt];refine Yd.each [h.1.1,h.1.2.1,h.1.2.2] (fun(s:bV) i=>(((0,0,0),[]),s,i)) (fun A s=>s.2=h.2/\(0<A.length->s.1.1=h.1.1)/\(1<A.length->s.1.2.1=h.1.2.1)/\(2<A.length->s.1.2.2=h.1.2.2)) (fun A x C s k hA hP next=>?_) (fun s k hP=>?_) (s0:=((0,0,0),h.2)) ⟨rfl,by simp,by simp,by simp⟩ (by simp)
  ·have al:=jm hA;rw[show [h.1.1,h.1.2.1,h.1.2.2].length=3 from rfl] at al;dsimp only;rw[aW (show(A.length:Int)<3 by omega),bD];have ix0:=fp hA;have ix:bo [(rh h).1.1,(rh h).1.2.1,(rh h).1.2.2] (A.length:Int)=some (x:Rat):=by
    have ix:=fp hA;rw[Io] at ix⊢;have:=congrArg (Option.map (fun x:Int=>(x:Rat))) ix;rwa [<-kD] at this
   have hx:p7 x=false:=by
    have:=at_mem hA;simp at this;rcases this with rfl|rfl|rfl
    ·exact o.x
    ·exact o.y
    ·exact o.z
   have bx:=AI hx;have i6:yA x=true:=by unfold yA;rw[aW (by omega),aW (by omega)];rfl
   refine Yd.bd ix<|Yd.bd (x:=(x,true)) ?_ ?_
   ·unfold Bf;rw[Ap,bC (by omega),i6];rfl
   ·dsimp only;rw[bC (show¬999999999<x by omega),bC (show¬x< -999999999 by omega)];simp only[Am,Bool.or_self,a8];have hm:=hP;rw[List.length_append] at next
    generalize A.length=m at*
    have:m=0\/m=1\/m=2:=by omega
    rcases this with rfl|rfl|rfl
    ·exact Yd.bd (x:=s.1.1) rfl (Yd.bd (x:=1) rfl (next ((x,s.1.2.1,s.1.2.2),s.2) ⟨hP.1,fun _=>(eQ ix0).symm,fun h=>by simp at h,fun h=>by simp at h⟩))
    ·exact Yd.bd (x:=s.1.2.1) rfl (Yd.bd (x:=2) rfl (next ((s.1.1,x,s.1.2.2),s.2) ⟨hP.1,fun _=>hP.2.1 (by omega),fun _=>(eQ ix0).symm,fun h=>by simp at h⟩))
    ·exact Yd.bd (x:=s.1.2.2) rfl (Yd.bd (x:=3) rfl (next ((s.1.1,s.1.2.1,x),s.2) ⟨hP.1,fun _=>hP.2.1 (by omega),fun _=>hP.2.2.1 (by omega),fun _=>(eQ ix0).symm⟩))
  ·dsimp only;rw[show decide ((([h.1.1,h.1.2.1,h.1.2.2].length:Nat):Int)<3)=false from rfl,a8];refine Yd.bd (acg (afd o.Rw).1 (afd o.Rw).2)<|Yd.mk ?_
   have e:s=h:=Prod.ext (Prod.ext (hP.2.1 (by simp)) (Prod.ext (hP.2.2.1 (by simp)) (hP.2.2.2 (by simp)))) hP.1;rw[e];rfl
 obtain⟨r,e,rfl⟩:=key;exact e
theorem R5(a:N3): ¬O5 a a:=by unfold O5;omega
theorem W8{a b c:N3}:O5 a b->O5 b c->O5 a c:=by unfold O5;omega
theorem YF(a b:N3):a=b\/O5 a b\/O5 b a:=by
 obtain⟨a1,a2,a3⟩:=a;obtain⟨b1,b2,b3⟩:=b;unfold O5;simp only[pg];omega
abbrev Gz(a b:bV):Prop:=O5 a.1 b.1
theorem aap{S:att iK}{L:att H3}(I:nu S L){f g:iK}(mf:f∈S)(mg:g∈S)(e:f.1.1=g.1.1):f.1=g.1:=by
 have le:∀{f g:iK},f∈S->g∈S->f.1.1=g.1.1->f.1.2<=g.1.2:=fun{f g} mf mg e=>by
  obtain⟨f1,_,f3,f4⟩:=I.zF f mf;obtain⟨p,mp⟩:=List.exists_mem_of_ne_nil f.2 (fun e=>by rw[e] at f3;simp at f3);obtain⟨vp,tp⟩:=(f4 p).1 mp;have:=vp.1 g.1 (I.zF g mg).1;unfold val at this tp;rw[e] at tp;grind
 exact Prod.ext e<|Rat.le_antisymm (le mf mg e)<|le mg mf e.symm
theorem ag0{S:att iK}(o:∀h∈l,xP h)(I:nu S (l.map rh))(hl:l.length<=32):
  Yd (fun r=>r.2=0/\r.1.length=S.length/\r.1.Pairwise Gz/\∀h,h∈r.1↔h∈l/\rh h∈S.map (·.1)) (jj S):=by
 have SL:S.length<=32:=by have:=I.len;rw[c7] at this;omega
 unfold jj;refine Yd.each S (fun(s:att bV×Bool) i=>(s.1,s.2,i)) (fun A s=>s.2=false/\(∀h∈s.1,h∈l)/\s.1.map rh=A.map (·.1)) (fun A f C s k hA hP next=>?_) (fun s k hP=>?_) (s0:=([],false)) (by simp) (by omega)
 ·dsimp only;rw[jM hA,bD];obtain⟨h,mh,e⟩:=bT.1 (I.zF f<|at_mem hA).1;refine Yd.bd (fp hA) ?_;rw[<-e];refine Yd.bd (o h mh).text ?_;have al:=jm hA;have sl:s.1.length=A.length:=by rw[<-c7 (f:=rh),hP.2.2,c7]
  have nz:decide (h.1=((0:Int),(0:Int),(0:Int)))=false:=bC fun c=>by
   have:=(o h mh).g;rw[c] at this;cases this
  dsimp only;rw[nz,a8,hP.1];refine Yd.bd (app_1 (by omega) (by omega)) (Yd.bd (fF hA (by omega))<|next (_,false) ⟨rfl,fun g mg=>?_,?_⟩)
  ·rcases bN.1 mg with m|m
   ·exact hP.2.1 g m
   ·rw[cr.1 m];exact mh
  ·rw[wh,wh,hP.2.2,List.map_singleton,List.map_singleton,e]
 ·dsimp only;rw[gN,a8];obtain⟨b,f⟩:=s;obtain⟨hf,hb,he⟩:=hP;dsimp only at*;subst hf;have bl:b.length=S.length:=by rw[<-c7 (f:=rh),he,c7]
  rw[bC (show¬32<(b.length:Int) by omega),a8,a8];have hin:∀h∈b,∃f∈S,f.1=rh h:=fun h mh=>by
   have this:rh h∈b.map rh:=bT.2 ⟨h,mh,rfl⟩;rw[he] at this;exact bT.1 this
  have hO:GC (fun x:bV×bV=>gx x.1 x.2<|fun x=>kB x) Gz b:=⟨fun x _ y _=>by
   obtain⟨v,v1,v2⟩:=Qj x.1 y.1;refine⟨v,?_,v2⟩;show gx x y _=_;unfold gx kB;rw[fi,fi,v1];rfl,fun x _=>R5 x.1,fun x _ y _ z _=>W8,fun x mx y my=>by
   rcases YF x.1 y.1 with e|h
   ·left;obtain⟨f,mf,ef⟩:=hin x mx;obtain⟨g,mg,eg⟩:=hin y my;refine QX (o x<|hb x mx) (o y<|hb y my) ?_;rw[<-ef,<-eg];refine aap I mf mg ?_;rw[ef,eg];show rn x.1=rn y.1;rw[e]
   ·exact .inr h⟩
  obtain⟨r,r1,r2,r3⟩:=QR hO (by omega);refine Yd.bd (x:=r) (by unfold ow;rw[r1];rfl) (Yd.mk ⟨rfl,by rw[r2.length_eq,bl],?_,fun h=>?_⟩)
  ·have nd:b.Nodup:=by
    have:(b.map rh).Pairwise (· ≠ ·):=by rw[he];exact yu.2<|I.WH.imp fun h=>h
    exact(yu.1 this).imp fun h e=>h (by rw[e])
   exact LN (fun{a b} ma mb h=>h.1.resolve_left h.2)<|r3.and<|r2.nodup_iff.2 nd
  ·show h∈r↔_;rw[r2.mem_iff];constructor
   ·intro mh;refine⟨hb h mh,?_⟩;rw[<-he];exact bT.2 ⟨h,mh,rfl⟩
   ·rintro⟨mh,m⟩;rw[<-he] at m;obtain⟨g,mg,e⟩:=bT.1 m;rw[<-QX (o g<|hb g mg) (o h mh) e];exact mg
def IK(L:att H3):Prop:=∃o,∀k∈L,val k o<0
theorem XN(o:∀h∈l,xP h)(hl:l.length<=50):
  Yd (fun r=>(r.2=13/\ ¬zQ (l.map rh))\/(r.2=12/\zQ (l.map rh)/\ ¬IK (l.map rh))\/(r.2=0/\nu r.1 (l.map rh))) (rr l):=by
 have few:=xP.few o;have pr:=xP.ahp o;have ll:(l.map rh).length=l.length:=c7 _;unfold rr;refine Yd.bd (afo o (by omega)) (Yd.iG (W5 few (by omega) (by omega) (by omega) pr) fun b hb=>?_);refine Yd.cond (fun hc=>Yd.mk<| .inl ⟨rfl,fun c=>?_⟩) fun hc=>?_
 ·rw[hb.2 c] at hc;cases hc
 ·have hB:zQ (l.map rh):=hb.1 (by simpa using hc);refine Yd.iG (UQ few (by omega) (by omega) (by omega) pr) fun r hr=>?_
  rcases hr.arw pr hB with⟨e,h⟩|⟨e,h⟩
  ·rw[e];exact Yd.mk<| .inr<| .inr ⟨rfl,h⟩
  ·rw[e];exact Yd.mk<| .inr<| .inl ⟨rfl,hB,h⟩
theorem ZN(o:∀h∈l,xP h)(hc:jF l=some 0)(hl:l.length<=32):
  Yd (fun r=>(r.1=[]/\r.2=13/\ ¬zQ (l.map rh))\/(r.1=[]/\r.2=12/\zQ (l.map rh)/\ ¬IK (l.map rh))\/(r.2=0/\∃S,nu S (l.map rh)/\r.1.length=S.length/\r.1.Pairwise Gz/\∀h,h∈r.1↔h∈l/\rh h∈S.map (·.1))) (gI l):=by
 unfold gI;rw[bC (show¬256<(l.length:Int) by omega),a8,hc];refine Yd.bd rfl ?_;show Yd _ (bd (rr l) _);refine Yd.iG (XN o (by omega)) fun r hr=>?_
 rcases hr with⟨e,h⟩|⟨e,h1,h2⟩|⟨e,h⟩
 ·rw[e];exact Yd.mk<| .inl ⟨rfl,rfl,h⟩
 ·rw[e];exact Yd.mk<| .inr<| .inl ⟨rfl,rfl,h1,h2⟩
 ·rw[e];show Yd _ (bd (jj r.1) _);exact Yd.iG (ag0 o h hl) fun b hb=>Yd.mk<| .inr<| .inr ⟨hb.1,r.1,h,hb.2⟩
def Asc(l:att bV):Prop:=∀A x y C,l=A++x::y::C->Gz x y
theorem YH{A:att bV}{x y:bV}{C:att bV}(e:l=A++x::y::C)(h:Asc (A++[x]))(b:Gz x y):Asc (A++[x]++[y]):=by
 intro A' x' y' C' e';rcases List.eq_nil_or_concat C' with rfl|⟨D,z,rfl⟩
 ·have e2:A++[x]++[y]=(A'++[x'])++[y']:=by rw[e'];simp
  obtain⟨e3,e4⟩:=H5 e2 rfl;obtain⟨_,e5⟩:=H5 e3 rfl;cases e4;cases e5;exact b
 ·have e2:A++[x]++[y]=(A'++x'::y'::D)++[z]:=by rw[e'];simp
  obtain⟨e3,_⟩:=H5 e2 rfl;exact h A' x' y' D e3
theorem WT(o:∀h∈l,xP h)(hc:jF l=some 0)(hl:l.length<=32):
  Yd (fun r=>(r.2=11/\ ¬Asc l)\/(Asc l/\((r.2=13/\ ¬zQ (l.map rh))\/(r.2=12/\zQ (l.map rh)/\ ¬IK (l.map rh))\/(nu r.1 (l.map rh)/\r.2=bif decide (r.1.length<l.length) then 1 else 0)))) (jJ l):=by
 unfold jJ;rw[bC (show¬32<(l.length:Int) by omega),a8,hc];refine Yd.bd rfl ?_;show Yd _ (lp _ _ 0);refine Yd.each l (fun(_:Unit) i=>i) (fun A _=>Asc A) (fun A x C s k hA hP next=>?_) (fun s k hP=>?_) (s0:=()) (fun A x y C e=>by cases A<;>cases e) (by omega)
 ·rw[jM hA,bD];obtain rfl|⟨B,y,rfl⟩:A=[]\/∃B y,A=B++[y]:=(List.eq_nil_or_concat A).imp id fun⟨B,y,h⟩=>⟨B,y,by rw[h,List.concat_eq_append]⟩
  ·exact Yd.bd (fF hA (by omega)) (next () fun A' x' y' C' e=>by
    have:=congrArg List.length e;simp at this;omega)
  ·have i1:bo l (B.length:Int)=some y:=by rw[Io,hA];simp
   have i2:=fp hA;have al:=jm hA;have f:=fF hA (by omega);obtain⟨v,v1,v2⟩:=Qj y.1 x.1;have en:(B++[y]).length=B.length+1:=by simp
   have nx:=next ()
   have asc:=YH (l:=l) (A:=B) (x:=y) (y:=x) (C:=C) (by rw[hA];simp) hP
   generalize (B++[y]).length=m at*
   subst en;have hpos:decide ((0:Int)<((B.length+1:Nat):Int))=true:=aW (by omega);rw[hpos,show gd true true=true from rfl,eG rfl];refine Yd.bd (x:=(B.length:Int)) (by rw[aM ⟨by omega,by omega⟩];exact congrArg some (by omega)) ?_;rw[eG rfl];refine Yd.bd i1 ?_;rw[eG rfl];refine Yd.bd i2 ?_;rw[eG rfl];refine Yd.bd v1 ?_;rw[rQ];refine Yd.cond (fun hv=>Yd.mk<| .inl ⟨rfl,fun c=>?_⟩) fun hv=>?_
   ·have:=v2.2 (c B y x C (by rw[hA];simp));have:=aZ hv;omega
   ·have:=br hv;exact Yd.bd f (nx (asc (v2.1 (by omega))))
 ·rw[gN,a8];refine Yd.iG (XN o (by omega)) fun r hr=>?_
  rcases hr with⟨e,h⟩|⟨e,h1,h2⟩|⟨e,h⟩
  ·rw[e];exact Yd.mk<| .inr ⟨hP,.inl ⟨rfl,h⟩⟩
  ·rw[e];exact Yd.mk<| .inr ⟨hP,.inr<| .inl ⟨rfl,h1,h2⟩⟩
  ·rw[e];have hd:decide ((r.1.length:Int)<(l.length:Int))=decide (r.1.length<l.length):=l8.2 (by omega);rw[hd];show Yd _ (cond (decide<|r.1.length<l.length) (some (r.1,1))<|some (r.1,0));cases hq:decide (r.1.length<l.length)
   ·exact Yd.mk (.inr ⟨hP,.inr (.inr ⟨h,by dsimp only;rw[hq];rfl⟩)⟩)
   ·exact Yd.mk (.inr ⟨hP,.inr (.inr ⟨h,by dsimp only;rw[hq];rfl⟩)⟩)
theorem Zw{n:Int}(h: -999999999<=n/\n<=999999999):Yd (fun p=>qT p n/\p.2.length<=1) (lI n):=by
 obtain⟨F,hF⟩:∃F,18446744073709551616=F+2:=⟨18446744073709551614,rfl⟩;unfold lI;rw[hF];show Yd _ (cond (!decide (n=0)) _ _);refine Yd.cond (fun hc=>?_) fun hc=>?_
 ·have h0:n≠0:=by simpa using hc
  have rm:n.tmod 1000000000=n:=by
   rcases Int.le_total 0 n with g|g
   ·exact Int.tmod_eq_of_lt g (by omega)
   ·have h2:=Int.tmod_eq_of_lt (a:= -n) (b:=1000000000) (by omega) (by omega);rw[Int.neg_tmod] at h2;omega
  have dv:n.tdiv 1000000000=0:=by
   have:=Int.mul_tdiv_add_tmod n 1000000000;rw[rm] at this;omega
  refine Yd.bd (x:=n) (by show some (n.tmod 1000000000)=_;rw[rm]) ?_;refine Yd.jn (fun d=>d=(n.natAbs:Int)) ?_ fun k7 h7=>Yd.cond (fun hc=>Yd.bd (aM ⟨by omega,by omega⟩) (h7 _ (by have:=aZ hc;omega))) fun hc=>h7 _ (by have:=br hc;omega)
  rintro d rfl;refine Yd.bd (x:=[(n.natAbs:Int)]) (YI (by simp)) (Yd.bd (x:=0) (by show aL (n.tdiv 1000000000)=_;rw[dv];rfl) ?_);show Yd _ (bd (eE (decide<|n<0) [(n.natAbs:Int)]) _);refine Yd.iG (qZ (z:=n) (fun x mx=>?_) (by simp) ?_) fun p hp=>Yd.mk hp
  ·rw[cr.1 mx];exact⟨by omega,by show _<(1000000000:Int);omega⟩
  ·have e:aJ [(n.natAbs:Int)]=(n.natAbs:Int):=by show(n.natAbs:Int)+1000000000*0=_;omega
   rw[e];cases hn:decide (n<0)
   ·have:=br hn;simp only[a8];omega
   ·have:=aZ hn;simp only[bD];omega
 ·have h0:n=0:=by simpa using hc
  subst h0;exact Yd.iG (qZ (z:=0) (fun x mx=>by cases mx) (by simp) rfl) fun p hp=>Yd.mk ⟨hp.1,df hp.2 (by simp)⟩
theorem Y5(n:Int):bU (n:Rat)=eh n:=by
 unfold bU;rw[Ap,EU];simp
theorem DK{n:Int}(h:p7 n=false):mO n=some (bU (n:Rat)):=by
 obtain⟨p,e,h1,h2⟩:=Zw<|AI h
 unfold mO;rw[e,fi,MR h1 (by omega),Y5];rfl
end
section
variable{h:bV}(o:xP h)
include o
theorem zG:ja h=some (eJ (rh h).1):=by
 unfold ja kn;rw[DK o.x,fi,DK o.y,fi,DK o.z];rfl
theorem agQ{p:Q3}{n:Nat}(hp:ql n p)(hn:n<=5000):wP h (eJ p)=some (bU<|val (rh h) p)/\lv (3*n+44) (val (rh h) p):=by
 have l:=o.lvn (n:=9) (by omega);have d:=Nk l hp;refine⟨?_,gz (lvs d o.Rw) (by omega)⟩;unfold wP;rw[zG o,fi,Yt l hp (by omega),fi];have e:=P7 d o.Rw (by omega) (by omega);rw[<-o.txt] at e;rw[e];rfl
theorem WC{p:Q3}{n:Nat}(hp:ql n p)(hn:n<=5000):rz h (eJ p)=some (val (rh h) p).num.sign:=by
 obtain⟨e,l⟩:=agQ o hp hn;unfold rz;rw[e,fi,WB l (by omega)];rfl
end
section
variable{l:att bV}{p:Q3}{n:Nat}{C:att Q3}{α:Type}{A:att α}{x:α}
theorem agR{x:Rat}(hx:lv n x)(h0:x≠0)(hn:n<=18000):lZ (bU x)=some (bU x⁻¹):=by
 have o:lv 1 (1:Rat):=o8 (d:=1) (.inl rfl) 1;have key:Yd (fun r=>r=bU x⁻¹) (lZ<|bU x):=by
  unfold lZ;refine Yd.iG (zd (D6 hx) (by omega) (by omega)) ?_;rintro⟨q1,q2⟩ ⟨⟨b1,b2⟩,b3,b4⟩;dsimp only at*;have hf:=B9 b2 b1 (fun e=>h0<|tm.1 e) (by omega) (by omega);rw[Xz] at hf;exact Yd.bd hf<|Yd.mk rfl
 obtain⟨r,e,rfl⟩:=key;exact e
theorem UC{x:Rat}(hx:lv n x)(hn:n<=18000):oI (bU x)=some (decide<|x=0):=by
 unfold oI;rw[Bt x<|Nj hx hn]
theorem RZ(a b c:Q3):aP a (aG b c)=oS a b c:=by unfold oS aP aG;grind
theorem WD{a b c:bV}(oa:xP a)(ob:xP b)(oc:xP c):
  rA a b c=some (bif decide (oS (rh a).1 (rh b).1 (rh c).1=0) then(([],[],[]),false) else(eJ<|sC (rh a) (rh b)<|rh c,true)):=by
 have la:=oa.lvn (n:=9) (by omega);have lb:=ob.lvn (n:=9) (by omega);have lc:=oc.lvn (n:=9) (by omega);have bc':=sN lb lc;have ca':=sN lc la;have ab':=sN la lb;have ld:=Nk la bc';unfold rA DZ;rw[zG oa,fi,zG ob,fi,zG oc,fi,Fb lb lc (by omega),fi,Yt la bc' (by omega),fi,fi,UC ld (by omega),fi,RZ];rw[RZ] at ld;cases hd:decide (oS (rh a).1 (rh b).1 (rh c).1=0)
 ·have s1:=IA bc' oa.Rw (by omega);have s2:=IA ca' ob.Rw (by omega);have s3:=IA ab' oc.Rw (by omega);rw[<-oa.txt] at s1;rw[<-ob.txt] at s2;rw[<-oc.txt] at s3;have t1:=Gg bc' oa.Rw;have t2:=Gg ca' ob.Rw;have t3:=Gg ab' oc.Rw;have t4:=Li t1 t2;have t5:=Li t4 t3;have h0:=br hd;simp only[a8];rw[fi,s1,fi,Fb lc la (by omega),fi,s2,fi,adq t1 t2 (by omega),fi,Fb la lb (by omega),fi,s3,fi,adq t4 t3 (by omega),fi,agR ld h0 (by omega),fi,IA t5 (lvi ld h0) (by omega)]
  rfl
 ·rfl
theorem afJ{a b c:bV}(oa:xP a)(ob:xP b)(oc:xP c)(h0:oS (rh a).1 (rh b).1 (rh c).1≠0):ql 500 (sC (rh a) (rh b)<|rh c):=by
 have la:=oa.lvn (n:=9) (by omega);have lb:=ob.lvn (n:=9) (by omega);have lc:=oc.lvn (n:=9) (by omega);have ld:=Nk la<|sN lb lc
 rw[RZ] at ld;exact xq (Gg (Li (Li (Gg (sN lb lc) oa.Rw)<|Gg (sN lc la) ob.Rw)<|Gg (sN la lb) oc.Rw)<|lvi ld h0) (by omega)
theorem TW(o:∀h∈l,xP h)(hl:l.length<=100000000){d:Q3}(hd:ql n d)(hn:n<=5000):Yd (fun b=>b=true↔∃h∈l,0<aP (rh h).1 d) (pN l<|eJ d):=by
 unfold pN;refine Yd.each l (fun(_:Unit) i=>i) (fun A _=>∀h∈A,¬0<aP (rh h).1 d) (fun A x C s k hA hP next=>?_) (fun s k hP=>?_) (s0:=()) (by simp) (by omega)
 ·rw[jM hA,bD];have ox:=o x<|at_mem hA
  have l9:=ox.lvn (n:=9) (by omega);refine Yd.bd (fp hA) (Yd.bd (zG ox) (Yd.bd (Yt l9 hd (by omega)) (Yd.bd (WB (Nk l9 hd) (by omega)) ?_)));rw[MI];refine Yd.cond (fun hc=>Yd.mk ⟨fun _=>⟨x,at_mem hA,aZ hc⟩,fun _=>rfl⟩) fun hc=>Yd.bd (fF hA hl)<|next () fun h mh=>?_
  rcases bN.1 mh with m|m
  ·exact hP h m
  ·rw[cr.1 m];exact br hc
 ·rw[gN,a8];exact Yd.mk ⟨fun c=>(by cases c),fun⟨h,mh,c⟩=>absurd c<|hP h mh⟩
theorem aik:bU (-1)=[45,49]:=aH
theorem alk(u v:Q3):ik (aG u v) (-1)=aG v u:=(wu u v).symm
theorem RJ(o:∀h∈l,xP h)(hl:l.length<=50):Yd (fun b=>b=true↔zQ (l.map rh)) (qc l):=by
 have bi:zQ (l.map rh)↔(∃f∈l,∃g∈l,aG (rh f).1 (rh g).1≠o3)/\∀f∈l,∀g∈l,aG (rh f).1 (rh g).1≠o3->∃h∈l,0<aP (rh h).1 (aG (rh f).1 (rh g).1):=by
  rw[ag1];have mm:∀{h:bV},h∈l->rh h∈l.map rh:=fun mh=>bT.2 ⟨_,mh,rfl⟩
  constructor
  ·rintro⟨⟨f,mf,g,mg,c⟩,h⟩;obtain⟨a,ma,rfl⟩:=bT.1 mf;obtain⟨b,mb,rfl⟩:=bT.1 mg;refine⟨⟨a,ma,b,mb,c⟩,fun x mx y my c=>?_⟩;obtain⟨k,mk,c⟩:=h _ (mm mx) _ (mm my) c;obtain⟨z,mz,rfl⟩:=bT.1 mk;exact⟨z,mz,c⟩
  ·rintro⟨⟨f,mf,g,mg,c⟩,h⟩;refine⟨⟨_,mm mf,_,mm mg,c⟩,fun x mx y my c=>?_⟩;obtain⟨a,ma,rfl⟩:=bT.1 mx;obtain⟨b,mb,rfl⟩:=bT.1 my;obtain⟨z,mz,c⟩:=h a ma b mb c;exact⟨_,mm mz,c⟩
 rw[show(fun b:Bool=>b=true↔zQ (l.map rh))=fun b:Bool=>b=true↔(∃f∈l,∃g∈l,aG (rh f).1 (rh g).1≠o3)/\∀f∈l,∀g∈l,aG (rh f).1 (rh g).1≠o3->∃h∈l,0<aP (rh h).1 (aG (rh f).1 (rh g).1) from funext fun b=>propext (by rw[bi])];unfold qc;refine Yd.each l (fun(s:Bool) i=>(s,i)) (fun A s=>(s=true↔∃f∈A,∃g∈A,aG (rh f).1 (rh g).1≠o3)/\∀f∈A,∀g∈A,aG (rh f).1 (rh g).1≠o3->∃h∈l,0<aP (rh h).1 (aG (rh f).1 (rh g).1)) (fun A x C s k hA hP next=>?_) (fun s k hP=>?_) (s0:=false) (by simp) (by omega)
 ·dsimp only;rw[jM hA,bD];have al:=jm hA;have mx:=at_mem hA;have mA:∀y∈A,y∈l:=fun y my=>by rw[hA];exact pd _ my
  refine Yd.each A (fun(t:Bool) i=>(t,i)) (fun B t=>(t=true↔(∃f∈A,∃g∈A,aG (rh f).1 (rh g).1≠o3)\/∃g∈B,aG (rh x).1 (rh g).1≠o3)/\∀g∈B,aG (rh x).1 (rh g).1≠o3->(∃h∈l,0<aP (rh h).1 (aG (rh x).1 (rh g).1))/\∃h∈l,0<aP (rh h).1 (aG (rh g).1 (rh x).1)) (fun B y D t k2 hB hQ xp=>?_) (fun t k2 hQ=>?_) (s0:=s) (by simpa using hP.1) (by omega)
  ·dsimp only;rw[jM hB,bD];have my:=mA y<|at_mem hB
   have hB':l=B++y::(D++x::C):=by rw[hA,hB];simp
   refine Yd.jn (fun t:Bool=>(t=true↔(∃f∈A,∃g∈A,aG (rh f).1 (rh g).1≠o3)\/∃g∈B++[y],aG (rh x).1 (rh g).1≠o3)/\∀g∈B++[y],aG (rh x).1 (rh g).1≠o3->(∃h∈l,0<aP (rh h).1 (aG (rh x).1 (rh g).1))/\∃h∈l,0<aP (rh h).1 (aG (rh g).1 (rh x).1)) (fun t ht=>Yd.bd (fF hB (by omega))<|xp t ht) fun k8 h8=>?_
   have lx:=(o x mx).lvn (n:=9) (by omega);have ly:=(o y my).lvn (n:=9) (by omega);have lc:=sN lx ly;refine Yd.bd (fp hA) (Yd.bd (zG<|o x mx) (Yd.bd (fp hB') (Yd.bd (zG<|o y my) (Yd.bd (Fb lx ly (by omega)) (Yd.bd (WA lc (by omega)) ?_)))));have sp:∀{P:bV->Prop},(∀g∈B++[y],P g)↔(∀g∈B,P g)/\P y:=fun{P}=>by simp[or_imp,forall_and]
   have ex:∀{P:bV->Prop},(∃g∈B++[y],P g)↔(∃g∈B,P g)\/P y:=fun{P}=>by simp[HN,exists_or]
   rw[sp] at h8;rw[ex] at h8;refine Yd.cond (fun hc=>h8 _ ?_) fun hc=>?_
   ·have:=aZ hc;exact⟨by rw[hQ.1];simp[this],hQ.2,fun c=>absurd this c⟩
   ·have h0:=br hc;refine Yd.iG (TW o (by omega) lc (by omega)) fun b hb=>?_
    cases b with
    |false=>
     show Yd _ (some false);refine Yd.mk ⟨fun c=>(by cases c),fun c=>?_⟩;have:=hb.2<|c.2 x mx y my h0
     cases this
    |true=>
     show Yd _ (bd (km [45,49]<|eJ<|aG (rh x).1 (rh y).1) _);have l1:lv 1 (-1:Rat):=o8 (d:= -1) (.inr rfl) 1;have sc:=IA lc l1 (by omega);rw[aik,alk] at sc;refine Yd.bd sc ?_;show Yd _ (bd (pN l _) _);refine Yd.iG (TW o (by omega) (sN ly lx) (by omega)) fun b' ju=>?_
     cases b' with
     |false=>
      refine Yd.mk ⟨fun c=>(by cases c),fun c=>?_⟩;have:=ju.2 (c.2 y my x mx fun e=>h0 (by rw[wu,e,aiv]));cases this
     |true=>
      refine h8 true ⟨⟨fun _=> .inr<| .inr h0,fun _=>rfl⟩,hQ.2,fun _=>⟨hb.1 rfl,ju.1 rfl⟩⟩
  ·dsimp only;rw[gN,a8];refine Yd.bd (fF hA (by omega))<|next t ⟨?_,?_⟩
   ·rw[hQ.1];constructor
    ·rintro(⟨f,mf,g,mg,c⟩|⟨g,mg,c⟩)
     ·exact⟨f,by simp[mf],g,by simp[mg],c⟩
     ·exact⟨x,by simp,g,by simp[mg],c⟩
    ·rintro⟨f,mf,g,mg,c⟩;rcases bN.1 mf with mf|mf<;>rcases bN.1 mg with mg|mg
     ·exact .inl ⟨f,mf,g,mg,c⟩
     ·rw[cr.1 mg] at c;exact .inr ⟨f,mf,fun e=>c (by rw[wu,e,aiv])⟩
     ·rw[cr.1 mf] at c;exact .inr ⟨g,mg,c⟩
     ·rw[cr.1 mf,cr.1 mg] at c;exact absurd CL c
   ·intro f mf g mg c;rcases bN.1 mf with mf|mf<;>rcases bN.1 mg with mg|mg
    ·exact hP.2 f mf g mg c
    ·rw[cr.1 mg] at c⊢;exact(hQ.2 f mf fun e=>c (by rw[wu,e,aiv])).2
    ·rw[cr.1 mf] at c⊢;exact(hQ.2 g mg c).1
    ·rw[cr.1 mf,cr.1 mg] at c;exact absurd CL c
 ·dsimp only;rw[gN,a8];exact Yd.mk ⟨fun c=>⟨hP.1.1 c,hP.2⟩,fun c=>hP.1.2 c.1⟩
structure Srt(l r:att bV):Prop where
 asc:r.Pairwise Gz
 sub:∀h∈r,h∈l
 le:∀h∈l,∃k∈r,k.1=h.1/\rq k.2<=rq h.2
theorem Srt.least{r:att bV}(s:Srt l r):Eu (l.map rh) (r.map rh):=by
 refine⟨fun g mg=>?_,fun g mg=>?_⟩
 ·obtain⟨h,mh,rfl⟩:=bT.1 mg;exact bT.2 ⟨h,s.sub h mh,rfl⟩
 ·obtain⟨h,mh,rfl⟩:=bT.1 mg;obtain⟨k,mk,e,c⟩:=s.le h mh;exact⟨rh k,bT.2 ⟨k,mk,rfl⟩,by show rn k.1=rn h.1;rw[e],c⟩
theorem Zd(o:∀h∈l,xP h)(hl:l.length<=50):Yd (fun r=>Srt l r/\r.length<=l.length) (uS l):=by
 unfold uS;refine Yd.each l (fun(s:att bV) i=>(s,i)) (fun A s=>Srt A s/\s.length<=A.length) (fun A x C s k hA hP next=>?_) (fun s k hP=>?_) (s0:=[]) ⟨⟨List.Pairwise.nil,by simp,by simp⟩,by simp⟩ (by omega)
 ·dsimp only;rw[jM hA,bD];have al:=jm hA;have mx:=at_mem hA;have ox:=o x mx;obtain⟨S,sl⟩:=hP;have os:∀h∈s,xP h:=fun h mh=>o h (by rw[hA];exact pd _<|S.sub h mh)
  refine Yd.jn (fun s'=>Srt (A++[x]) s'/\s'.length<=(A++[x]).length) (fun s' h'=>Yd.bd (fF hA (by omega))<|next s' h') fun k5 h5=>?_
  have put:∀B D:att bV,s=B++D->(∀h∈B,Gz h x)->(∀h∈D,Gz x h)->Srt (A++[x]) ((B++[x])++D)/\((B++[x])++D).length<=(A++[x]).length:=fun B D e hb hd=>by
   have sa:=S.asc;rw[e] at sa;obtain⟨a1,a2,a3⟩:=Cy.1 sa;refine⟨⟨Cy.2 ⟨Cy.2 ⟨a1,LM _ _,fun h mh y my=>by rw[cr.1 my];exact hb h mh⟩,a2,fun h mh y my=>?_⟩,fun h mh=>?_,fun h mh=>?_⟩,?_⟩
   ·rcases bN.1 mh with m|m
    ·exact a3 h m y my
    ·rw[cr.1 m];exact hd y my
   ·have:h∈s\/h=x:=by rw[e];simp at mh⊢;rcases mh with m|m|m<;>simp[m]
    rcases this with m|m
    ·exact pd _<|S.sub h m
    ·rw[m];simp
   ·rcases bN.1 mh with m|m
    ·obtain⟨k,mk,c⟩:=S.le h m;rw[e] at mk;exact⟨k,by simp at mk⊢;rcases mk with m|m<;>simp[m],c⟩
    ·rw[cr.1 m];exact⟨x,by simp,rfl,j6⟩
   ·rw[e] at sl;simp at sl⊢;omega
  refine Yd.each s (fun(_:Unit) i=>i) (fun B _=>∀h∈B,Gz h x) (fun B h D t k7 hB hQ xp=>?_) (fun t k7 hQ=>?_) (s0:=()) (by simp) (by omega)
  ·have hg:gd (decide<|(B.length:Int)<(s.length:Int)) true=true:=by rw[jM hB];rfl
   have bl:=jm hB;have mh:=at_mem hB;rw[eG hg];refine Yd.bd (fp hB) ?_;rw[eG hg];refine Yd.bd (fp hB) ?_;rw[eG hg];refine Yd.bd (fp hA) ?_;rw[eG hg];refine Yd.bd (MV h.1 x.1) ?_;rw[jM hB,rQ];refine Yd.cond (fun hc=>Yd.bd (fF hB (by omega))<|xp () fun g mg=>?_) fun hc=>?_
   ·rcases bN.1 mg with m|m
    ·exact hQ g m
    ·rw[cr.1 m];exact aZ hc
   ·have hnb:=br hc;rw[jM hB] at hg;rw[eG hg];refine Yd.bd (fp hB) ?_;rw[eG hg];refine Yd.bd (fp hB) ?_;rw[eG hg];refine Yd.bd (fp hA) ?_;rw[rQ];refine Yd.cond (fun he=>?_) fun he=>?_
    ·have he:=aZ he;have lx:=ox.Rw;have lh:=(os h mh).Rw;have cmp:Af x.2 h.2=some ((rh x).2-(rh h).2).num.sign:=by
      have e:=P7 lx lh (by omega) (by omega);rw[<-ox.txt,<-(os h mh).txt] at e;unfold Af;rw[e,fi,WB (lvs lx lh) (by omega)];rfl
     refine Yd.bd (fp hA)<|Yd.bd (fp hB)<|Yd.bd (fp hB)<|Yd.bd cmp ?_
     rw[sign_neg];refine Yd.jn (fun s'=>Srt (A++[x]) s'/\s'.length<=(A++[x]).length) (fun s' h'=>h5 s' h') fun ZW P6=>Yd.cond (fun hc=>?_) fun hc=>?_
     ·refine Yd.bd (fp hA) (Yd.bd (fp hB)<|Yd.bd (fp hB) ?_);have hx:(h.1,x.2)=x:=by rw[he]
      have st:s.set ((B.length:Int)).toNat (h.1,x.2)=B++x::D:=by rw[hx,Int.toNat_natCast,hB];simp
      rw[st];have hlt:rq x.2<rq h.2:=by have h9:=aZ hc;change rq x.2-rq h.2<0 at h9;grind
      have sa:=S.asc;rw[hB] at sa;obtain⟨a1,a2,a3⟩:=Cy.1 sa;obtain⟨a4,a5⟩:=qM.1 a2;refine P6 _ ⟨⟨Cy.2 ⟨a1,qM.2 ⟨fun y my=>?_,a5⟩,fun y my z mz=>?_⟩,fun y my=>?_,fun y my=>?_⟩,?_⟩
      ·show O5 x.1 y.1;rw[<-he];exact a4 y my
      ·rcases aY.1 mz with e|m
       ·rw[e];show O5 y.1 x.1;rw[<-he];exact a3 y my h (by simp)
       ·exact a3 y my z<|cW _ m
      ·have:y∈s\/y=x:=by rw[hB];simp at my⊢;rcases my with m|m|m<;>simp[m]
       rcases this with m|m
       ·exact pd _<|S.sub y m
       ·rw[m];simp
      ·rcases bN.1 my with m|m
       ·obtain⟨g,mg,c1,c2⟩:=S.le y m;rw[hB] at mg;rcases bN.1 mg with mg|mg
        ·exact⟨g,by simp[mg],c1,c2⟩
        ·rcases aY.1 mg with e|mg
         ·rw[e] at c1 c2;exact⟨x,by simp,by rw[<-c1,he],Cr (jQ hlt) c2⟩
         ·exact⟨g,by simp[mg],c1,c2⟩
       ·rw[cr.1 m];exact⟨x,by simp,rfl,j6⟩
      ·rw[hB] at sl;simp at sl⊢;omega
     ·have Um:rq h.2<=rq x.2:=by have h9:=br hc;change¬rq x.2-rq h.2<0 at h9;grind
      refine P6 _ ⟨⟨S.asc,fun y my=>pd _<|S.sub y my,fun y my=>?_⟩,by simp;omega⟩;rcases bN.1 my with m|m
      ·exact S.le y m
      ·rw[cr.1 m];exact⟨h,mh,he,Um⟩
    ·have hne:=br he;have hxh:Gz x h:=((YF h.1 x.1).resolve_left hne).resolve_left hnb;have s1:iq s 0 (B.length:Int)=some B:=by
      rw[im (by omega) (by omega) (by omega),hB];simp
     have s2:iq s (B.length:Int) (s.length:Int)=some (h::D):=by
      rw[im (by omega) (by omega) (by omega)];simp;rw[hB];simp
     have a0:∀(u v:att bV),u.length+v.length<=100->fX 40 u v=some (u++v):=fun u v huv=>by
      unfold fX;rw[aW (show(u.length+v.length)*40<=140737488355328 by omega),aW (show u.length+v.length<=9223372036854775807 by omega)];rfl
     have dl:s.length=B.length+(D.length+1):=by rw[hB];simp
     refine Yd.bd s1 (Yd.bd (a0 [] B (by simp;omega)) (Yd.bd (fp hA) (Yd.bd (a0 _ _ (by simp;omega)) (Yd.bd s2 (Yd.bd (a0 _ _ (by simp;omega))<|h5 _ ?_)))));rw[qL];refine put B (h::D) hB hQ fun y my=>?_
     rcases aY.1 my with e|m
     ·rw[e];exact hxh
     ·have sa:=S.asc;rw[hB] at sa;exact W8 hxh<|(qM.1 (Cy.1 sa).2.1).1 y m
  ·have hg:gd (decide<|(s.length:Int)<(s.length:Int)) true=false:=by rw[gN];rfl
   rw[mU hg,mU hg,mU hg,mU hg];rw[gN,HX,a8];rw[gN] at hg;rw[mU hg,mU hg,mU hg,HX,a8];have s1:iq s 0 (s.length:Int)=some s:=by rw[im (by omega) (by omega) (by omega)];simp
   have s2:iq s (s.length:Int) (s.length:Int)=some []:=by rw[im (by omega) (by omega) (by omega)];simp
   have a0:∀(u v:att bV),u.length+v.length<=100->fX 40 u v=some (u++v):=fun u v huv=>by
    unfold fX;rw[aW (show(u.length+v.length)*40<=140737488355328 by omega),aW (show u.length+v.length<=9223372036854775807 by omega)];rfl
   refine Yd.bd s1 (Yd.bd (a0 [] s (by simp;omega)) (Yd.bd (fp hA) (Yd.bd (a0 _ _ (by simp;omega)) (Yd.bd s2 (Yd.bd (a0 _ _ (by simp;omega))<|h5 _ ?_)))));rw[qL];exact put s [] (by simp) hQ (by simp)
 ·dsimp only;rw[gN,a8];exact Yd.mk hP
theorem UM(o:∀h∈l,xP h)(hl:l.length<=100000000)(hp:ql n p)(hn:n<=5000):Yd (fun b=>b=true↔Mem (l.map rh) p) (ry l<|eJ p):=by
 have mm:∀{h:bV},h∈l->rh h∈l.map rh:=fun mh=>bT.2 ⟨_,mh,rfl⟩
 unfold ry;refine Yd.each l (fun(_:Unit) i=>i) (fun A _=>∀h∈A,val (rh h) p<=0) (fun A x C s k hA hP next=>?_) (fun s k hP=>?_) (s0:=()) (by simp) (by omega)
 ·rw[jM hA,bD];refine Yd.bd (fp hA)<|Yd.bd (WC (o x<|at_mem hA) hp hn) ?_
  rw[MI];refine Yd.cond (fun hc=>Yd.mk ⟨fun c=>(by cases c),fun c=>?_⟩) fun hc=>Yd.bd (fF hA hl)<|next () fun h mh=>?_
  ·have:=c _ (mm<|at_mem hA);have:=aZ hc
   grind
  ·rcases bN.1 mh with m|m
   ·exact hP h m
   ·rw[cr.1 m];have:=br hc;grind
 ·rw[gN,a8];refine Yd.mk ⟨fun _ g mg=>?_,fun _=>rfl⟩;obtain⟨h,mh,rfl⟩:=bT.1 mg;exact hP h mh
theorem Ur(hl:C.length<=100000000)(hC:∀q∈C,ql n q)(hp:ql n p)(hn:n<=5000):lR (C.map eJ) (eJ p)=some (decide<|p∈C):=by
 have key:Yd (fun b=>b=decide (p∈C)) (lR (C.map eJ)<|eJ p):=by
  unfold lR;refine Yd.each (C.map eJ) (fun(_:Unit) i=>i) (fun A _=>eJ p∉A) (fun A x D s k hA hP next=>?_) (fun s k hP=>?_) (s0:=()) (by simp) (by simp;omega)
  ·rw[jM hA,bD];refine Yd.bd (fp hA) (Yd.cond (fun hc=>Yd.mk (aW ?_).symm) fun hc=>Yd.bd (fF hA (by simp;omega))<|next () fun c=>?_)
   ·obtain⟨q,mq,e⟩:=bT.1 (at_mem hA);have e2:=aZ hc;have:q=p:=ajW (hC q mq) hp (by omega) (by omega) (by rw[e,e2]);rw[<-this];exact mq
   ·rcases bN.1 c with m|m
    ·exact hP m
    ·exact br hc (cr.1 m).symm
  ·rw[gN,a8];exact Yd.mk (bC fun c=>hP<|bT.2 ⟨p,c,rfl⟩).symm
 obtain⟨r,e,rfl⟩:=key;exact e
theorem SQ{l:att α}:l.Sublist (A++[x])↔l.Sublist A\/∃r,l=r++[x]/\r.Sublist A:=by
 rw[Ij];constructor
 ·rintro⟨u,v,rfl,h1,h2⟩;cases h2 with
  |cons _ h2=>rw[List.sublist_nil.1 h2,rW];exact .inl h1
  |cons_cons _ h2=>rw[List.sublist_nil.1 h2];exact .inr ⟨u,rfl,h1⟩
 ·rintro(h|⟨r,rfl,h⟩)
  ·exact⟨l,[],by simp,h,by simp⟩
  ·exact⟨r,[x],rfl,h,Az _⟩
theorem I8{a b c:α}:[c,b,a].Sublist (A++[x])↔[c,b,a].Sublist A\/(a=x/\[c,b].Sublist A):=by
 rw[SQ];refine or_congr Iff.rfl ⟨?_,?_⟩
 ·rintro⟨r,e,h⟩;have e2:[c,b]++[a]=r++[x]:=e;obtain⟨e3,e4⟩:=H5 e2 rfl;cases e4;rw[<-e3] at h;exact⟨rfl,h⟩
 ·rintro⟨rfl,h⟩;exact⟨[c,b],rfl,h⟩
theorem I9{b c:α}:[c,b].Sublist (A++[x])↔[c,b].Sublist A\/(b=x/\c∈A):=by
 rw[SQ];refine or_congr Iff.rfl ⟨?_,?_⟩
 ·rintro⟨r,e,h⟩;have e2:[c]++[b]=r++[x]:=e;obtain⟨e3,e4⟩:=H5 e2 rfl;cases e4;rw[<-e3] at h;exact⟨rfl,Ig.1 h⟩
 ·rintro⟨rfl,h⟩;exact⟨[c],rfl,Ig.2 h⟩
def Met(a b c:bV)(p:Q3):Prop:=oS (rh a).1 (rh b).1 (rh c).1≠0/\p=sC (rh a) (rh b) (rh c)
def Tri(A:att bV)(p:Q3):Prop:=∃a b c,[c,b,a].Sublist A/\Met a b c p
def Duo(x:bV)(B:att bV)(p:Q3):Prop:=∃b c,[c,b].Sublist B/\Met x b c p
def Uno(x y:bV)(D:att bV)(p:Q3):Prop:=∃c∈D,Met x y c p
theorem aa8{A:att bV}{x:bV}:Tri (A++[x]) p↔Tri A p\/Duo x A p:=by
 constructor
 ·rintro⟨a,b,c,h,m⟩;rcases I8.1 h with h2|⟨e,h2⟩
  ·exact .inl ⟨a,b,c,h2,m⟩
  ·rw[e] at m;exact .inr ⟨b,c,h2,m⟩
 ·rintro(⟨a,b,c,h,m⟩|⟨b,c,h,m⟩)
  ·exact⟨a,b,c,I8.2<| .inl h,m⟩
  ·exact⟨x,b,c,I8.2<| .inr ⟨rfl,h⟩,m⟩
theorem adu{x:bV}{B:att bV}{y:bV}:Duo x (B++[y]) p↔Duo x B p\/Uno x y B p:=by
 constructor
 ·rintro⟨b,c,h,m⟩;rcases I9.1 h with h2|⟨e,h2⟩
  ·exact .inl ⟨b,c,h2,m⟩
  ·rw[e] at m;exact .inr ⟨c,h2,m⟩
 ·rintro(⟨b,c,h,m⟩|⟨c,h,m⟩)
  ·exact⟨b,c,I9.2<| .inl h,m⟩
  ·exact⟨y,c,I9.2<| .inr ⟨rfl,h⟩,m⟩
theorem Mw{x y:bV}{D:att bV}{z:bV}:Uno x y (D++[z]) p↔Uno x y D p\/Met x y z p:=by
 unfold Uno;simp[bN,HN,exists_or]
def Crs(l:att bV)(X:Q3->Prop)(out:att T3):Prop:=
 ∃C:att Q3,out=C.map eJ/\C.Nodup/\(∀p∈C,ql 500 p)/\C.length<=l.length*(l.length*l.length)/\∀p,p∈C↔Mem (l.map rh) p/\X p
theorem Crs.congr{X Y:Q3->Prop}{out:att T3}(h:Crs l X out)(e:∀p,X p↔Y p):Crs l Y out:=by
 obtain⟨C,c1,c2,c3,c4,c5⟩:=h;exact⟨C,c1,c2,c3,c4,fun p=>by rw[c5,e]⟩
theorem R2(o:∀h∈l,xP h)(hl:l.length<=50):Yd (fun r=>Crs l (Tri l) r) (qa l):=by
 have aoz:l.length*(l.length*l.length)<=125000:=pc hl<|pc hl hl
 have inl:∀{A C:att bV} {x:bV},l=A++x::C->(∀y∈A,y∈l):=fun h y my=>by rw[h];exact pd _ my
 unfold qa;refine Yd.each l (fun(s:att T3) i=>(s,i)) (fun A s=>Crs l (Tri A) s) (fun A x C s k hA hP next=>?_) (fun s k hP=>?_) (s0:=[]) ⟨[],rfl,List.nodup_nil,by simp,by simp,fun p=>by simp[Tri]⟩ (by omega)
 ·dsimp only;rw[jM hA,bD];have al:=jm hA;refine Yd.each A (fun(t:att T3) i=>(t,i)) (fun B t=>Crs l (fun p=>Tri A p\/Duo x B p) t) (fun B y D t k2 hB hQ xp=>?_) (fun t k2 hQ=>?_) (s0:=s) (hP.congr fun p=>by simp[Duo]) (by omega)
  ·dsimp only;rw[jM hB,bD];have bl:=jm hB;have hB':l=B++y::(D++x::C):=by rw[hA,hB];simp
   refine Yd.each B (fun(u:att T3) i=>(u,i)) (fun E u=>Crs l (fun p=>(Tri A p\/Duo x B p)\/Uno x y E p) u) (fun E z F u k3 hE hR PO=>?_) (fun u k3 hR=>?_) (s0:=t) (hQ.congr fun p=>by simp[Uno]) (by omega)
   ·dsimp only;rw[jM hE,bD];have el:=jm hE;have hE':l=E++z::(F++y::(D++x::C)):=by rw[hB',hE];simp
    have ox:=o x<|at_mem hA
    have oy:=o y<|at_mem hB'
    have oz:=o z<|at_mem hE'
    refine Yd.jn (fun u'=>Crs l (fun p=>(Tri A p\/Duo x B p)\/Uno x y (E++[z]) p) u') (fun u' h'=>Yd.bd (fF hE (by omega))<|PO u' h') fun Si nA=>?_
    refine Yd.bd (fp hA)<|Yd.bd (fp hB')<|Yd.bd (fp hE')<|Yd.bd (WD ox oy oz) ?_
    obtain⟨W,w1,w2,w3,w4,w5⟩:=hR;by_cases hd:oS (rh x).1 (rh y).1 (rh z).1=0
    ·rw[aW hd,bD];refine nA u ⟨W,w1,w2,w3,w4,fun p=>?_⟩;rw[w5];dsimp only;rw[Mw];have: ¬Met x y z p:=fun m=>m.1 hd
     simp[this]
    ·rw[bC hd,a8];have lp:=afJ ox oy oz hd;have hm:∀p,Met x y z p↔p=sC (rh x) (rh y) (rh z):=fun p=>⟨fun m=>m.2,fun e=>⟨hd,e⟩⟩
     have hv:Mem (l.map rh) (sC (rh x) (rh y)<|rh z)->∀q,q∈W++[sC (rh x) (rh y)<|rh z]↔Mem (l.map rh) q/\((Tri A q\/Duo x B q)\/Uno x y (E++[z]) q):=fun hc q=>by
      rw[bN,w5,Mw,hm,cr];constructor
      ·rintro(⟨a,b⟩|e)
       ·exact⟨a,b.imp id .inl⟩
       ·rw[e];exact⟨hc,.inr<| .inr rfl⟩
      ·rintro⟨a,b|b|b⟩
       ·exact .inl ⟨a,.inl b⟩
       ·exact .inl ⟨a,.inr b⟩
       ·exact .inr b
     generalize sC (rh x) (rh y) (rh z)=v at*
     refine Yd.iG (UM o (by omega) lp (by omega)) fun b hb=>?_
     cases b with
     |false=>
      refine nA u ⟨W,w1,w2,w3,w4,fun p=>?_⟩;rw[w5];dsimp only;rw[Mw,hm];constructor
      ·rintro⟨a,b⟩;exact⟨a,b.imp id .inl⟩
      ·rintro⟨a,b|b|b⟩
       ·exact⟨a,.inl b⟩
       ·exact⟨a,.inr b⟩
       ·rw[b] at a;have:=hb.2 a;cases this
     |true=>
      have hc:=hb.1 rfl;show Yd _ (bd (lR u<|eJ v) _);rw[w1];refine Yd.bd (Ur (by omega) w3 lp (by omega)) ?_;by_cases hw:v∈W
      ·rw[aW hw];refine nA _ ⟨W,rfl,w2,w3,w4,fun p=>?_⟩;have:=hv hc p;rw[<-this,bN,cr];exact⟨.inl,fun h=>h.elim id fun e=>by rw[e];exact hw⟩
      ·rw[bC hw];show Yd _ (bd (fX 48 _ _) _);have nd:(W++[v]).Nodup:=by
        rw[List.nodup_append];exact⟨w2,by simp,fun a ma b mb e=>hw (by rw[cr.1 mb] at e;rw[<-e];exact ma)⟩
       refine Yd.bd (app_1 (by omega) (by rw[c7];omega)) (nA _ ⟨W++[v],by simp,nd,fun p mp=>?_,?_,hv hc⟩)
       ·rcases bN.1 mp with m|m
        ·exact w3 p m
        ·rw[cr.1 m];exact lp
       ·have e:l.length=(l.map rh).length:=(c7 _).symm;rw[e];refine Xi nd fun p mp=>?_
        obtain⟨a,b⟩:=(hv hc p).1 mp;have met:∀{a b c:bV},a∈l->b∈l->c∈l->Met a b c p->rG (l.map rh) p:=fun{a' b' c'} ma mb mc m=>
         Dv.2 ⟨a,_,bT.2 ⟨_,ma,rfl⟩,_,bT.2 ⟨_,mb,rfl⟩,_,bT.2 ⟨_,mc,rfl⟩,m.1,m.2⟩
        rcases b with(⟨a',b',c',s,m⟩|⟨b',c',s,m⟩)|⟨c',mc,m⟩
        ·exact met (inl hA _ (s.subset (by simp))) (inl hA _ (s.subset (by simp))) (inl hA _ (s.subset (by simp))) m
        ·exact met (at_mem hA) (inl hB' _ (s.subset (by simp))) (inl hB' _ (s.subset (by simp))) m
        ·refine met (at_mem hA) (at_mem hB') ?_ m;rcases bN.1 mc with mc|mc
         ·exact inl hE' _ mc
         ·rw[cr.1 mc];exact at_mem hE'
   ·dsimp only;rw[gN,a8];exact Yd.bd (fF hB (by omega)) (xp u (hR.congr fun p=>by rw[adu,or_assoc]))
  ·dsimp only;rw[gN,a8];exact Yd.bd (fF hA (by omega)) (next t (hQ.congr fun p=>by rw[aa8]))
 ·dsimp only;rw[gN,a8];exact Yd.mk hP
theorem aeT:Mem (l.map rh) p/\Tri l p↔rG (l.map rh) p:=by
 rw[YZ];refine and_congr Iff.rfl ⟨?_,?_⟩
 ·rintro⟨a,b,c,s,m⟩;exact⟨rh a,rh b,rh c,s.map rh,m.1,m.2⟩
 ·rintro⟨a,b,c,s,m⟩;obtain⟨r,hr,e⟩:=List.sublist_map_iff.1 s
  match r,e with
  |[c',b',a'],e=>
   simp only[qg,HR,H4,and_true] at e;obtain⟨rfl,rfl,rfl⟩:=e;exact⟨a',b',c',hr,m⟩
theorem abe(hC:∀p∈C,ql 500 p)(hl:C.length<=100000000):
  Yd (fun r=>(r<3/\∃m:Q3,m≠o3/\∃c,∀p∈C,aP m p=c)\/(r=3/\∃a∈C,∃b∈C,∃c∈C,∃d∈C,oS (cg b a) (cg c a) (cg d a)≠0)) (wN<|C.map eJ):=by
 unfold wN;rw[c7];cases C with
 |nil=>exact Yd.mk (.inl ⟨by decide,_,G2,0,by simp⟩)
 |cons a T=>
  rw[bC (show¬((a::T).length:Int)=0 by simp;omega),a8];refine Yd.from (a::T) (fun(s:T3×T3×Int) i=>(s.1,s.2.1,s.2.2,i)) (fun A s=>∃u n:Q3,sQ a (a::T) A u n s.2.2/\(s.2.2=1->s.1=eJ u/\ql 1001 u)/\(s.2.2=2->s.2.1=eJ n/\ql 4005 n)) (fun A p D s k hA hP next=>?_) (fun s k hP=>?_) [a] T (s0:=(([],[],[]),([],[],[]),0)) rfl ⟨o3,o3,.inl ⟨rfl,by simp⟩,fun h=>by simp at h,fun h=>by simp at h⟩ (by omega)
  ·dsimp only;rw[jM hA,bD];have mp:=at_mem hA;have lp:=hC p mp;have la:=hC a gJ;have ld:=afL lp la;obtain⟨u,n,h,h1,h2⟩:=hP;refine Yd.jn (fun s':T3×T3×Int=>∃u n:Q3,sQ a (a::T) (A++[p]) u n s'.2.2/\(s'.2.2=1->s'.1=eJ u/\ql 1001 u)/\(s'.2.2=2->s'.2.1=eJ n/\ql 4005 n)) (fun s' h'=>Yd.bd (fF hA hl)<|next s' h') fun k6 h6=>?_
   have ix:bo ((a::T).map eJ) (A.length:Int)=some (eJ p):=by
    have:=fp hA;rw[Io] at this⊢;rw[kD,this];rfl
   refine Yd.bd ix (Yd.bd (x:=eJ a) rfl (Yd.bd (ajV lp la (by omega)) ?_));have ap2:s.2.2=0\/s.2.2=1\/s.2.2=2:=by rcases h with⟨e,_⟩|⟨e,_⟩|⟨e,_⟩<;>simp[e]
   obtain⟨s1,s2,dim⟩:=s;dsimp only at*;rcases ap2 with rfl|rfl|rfl
   ·rw[show gd (decide<|(0:Int)=0) true=true from rfl,eG rfl];refine Yd.bd (WA ld (by omega)) ?_;by_cases e:cg p a=o3
    ·rw[aW e];exact h6 (s1,s2,0) ⟨u,n,h.s0 e,fun h=>by simp at h,fun h=>by simp at h⟩
    ·rw[bC e];exact h6 (eJ<|cg p a,s2,1) ⟨_,n,h.s01 mp e,fun _=>⟨rfl,xq ld (by omega)⟩,fun h=>by simp at h⟩
   ·obtain⟨e1,l1⟩:=h1 rfl;subst e1;have lc:=sN l1 ld;show Yd _ (bd (iF (eJ u)<|eJ<|cg p a) _);refine Yd.bd (Fb l1 ld (by omega)) ?_;rw[show gd (decide<|(1:Int)=1) true=true from rfl,eG rfl];refine Yd.bd (WA lc (by omega)) ?_;by_cases e:aG u (cg p a)=o3
    ·rw[aW e];exact h6 (eJ u,s2,1) ⟨u,n,h.s1 e,fun _=>⟨rfl,l1⟩,fun h=>by simp at h⟩
    ·rw[bC e];show Yd _ (bd (iF (eJ u)<|eJ<|cg p a) _);exact Yd.bd (Fb l1 ld (by omega)) (h6 (eJ u,eJ<|aG u<|cg p a,2) ⟨u,_,h.Di mp e,fun h=>by simp at h,fun _=>⟨rfl,xq lc (by omega)⟩⟩)
   ·obtain⟨e1,l1⟩:=h2 rfl;subst e1;show Yd _ (bd (oZ (eJ n)<|eJ<|cg p a) _);refine Yd.bd (Yt l1 ld (by omega)) ?_;rw[show gd (decide<|(2:Int)=2) true=true from rfl,eG rfl];refine Yd.bd (UC (Nk l1 ld) (by omega)) ?_;by_cases e:aP n (cg p a)=0
    ·rw[aW e];exact h6 (s1,eJ n,2) ⟨u,n,h.s2 e,fun h=>by simp at h,fun _=>⟨rfl,l1⟩⟩
    ·rw[bC e];obtain⟨b,mb,c,mc,hd⟩:=h.s3 e;exact Yd.mk<| .inr ⟨rfl,a,gJ,b,mb,c,mc,p,mp,hd⟩
  ·dsimp only;rw[gN,a8];obtain⟨u,n,h,_⟩:=hP;obtain⟨m,m0,hm⟩:=h.flat;refine Yd.mk<| .inl ⟨?_,m,m0,_,hm⟩
   rcases h with⟨e,_⟩|⟨e,_⟩|⟨e,_⟩<;>rw[e]<;>decide
def cnt(C:att Q3)(h:H3):Nat:=(C.filter fun p=>decide<|val h p=0).length
theorem TC(o:∀h∈l,xP h)(hl:l.length<=50)(hp:ql 500 p):Yd (fun r=>r.length<=50) (ru l<|eJ p):=by
 unfold ru;refine Yd.each l (fun(s:att Int) i=>(s,i)) (fun A s=>s.length<=A.length) (fun A x C s k hA hP next=>?_) (fun s k hP=>?_) (s0:=[]) (by simp) (by omega)
 ·dsimp only;rw[jM hA,bD];have al:=jm hA;refine Yd.jn (fun s':att Int=>s'.length<=(A++[x]).length) (fun s' h'=>Yd.bd (fF hA (by omega))<|next s' h') fun k5 h5=>?_
  refine Yd.bd (fp hA) (Yd.bd (WC (o x<|at_mem hA) hp (by omega)) (Yd.cond (fun _=>Yd.bd (app_1 (by omega) (by omega)) (h5 _ (by simp;omega))) fun _=>h5 _ (by simp;omega)))
 ·dsimp only;rw[gN,a8];exact Yd.mk<|df hP hl
theorem adA(o:∀h∈l,xP h)(hl:l.length<=50)(hC:∀p∈C,ql 500 p)(hn:C.length<=1000000):
  Yd (fun r=>r.1=l.filter fun h=>decide<|3<=cnt C (rh h)) (wO l<|C.map eJ):=by
 have cm:(C.map eJ).length=C.length:=c7 _;unfold wO;refine Yd.each l (fun(s:att bV×att T3×att (att Int)) i=>(s,i)) (fun A s=>s.1=(A.filter fun h=>decide<|3<=cnt C (rh h))/\s.2.2=[]) (fun A x D s k hA hP next=>?_) (fun s k hP=>?_) (s0:=([],[],[])) ⟨rfl,rfl⟩ (by omega)
 ·dsimp only;rw[jM hA,bD];have al:=jm hA;have ox:=o x<|at_mem hA
  refine Yd.jn (fun s':att bV×att T3×att (att Int)=>s'.1=((A++[x]).filter fun h=>decide<|3<=cnt C (rh h))/\s'.2.2=[]) (fun s' h'=>Yd.bd (fF hA (by omega))<|next s' h') fun k5 h5=>?_
  refine Yd.each C (fun(t:Int) i=>(t,i)) (fun B t=>t=(cnt B (rh x):Int)) (fun B p E t k7 hB hQ xp=>?_) (fun t k7 hQ=>?_) (s0:=0) rfl (by omega)
  ·dsimp only;rw[cm,jM hB,bD];have bl:=jm hB;have ix:bo (C.map eJ) (B.length:Int)=some (eJ p):=by
    have:=fp hB;rw[Io] at this⊢;rw[kD,this];rfl
   have cb:cnt B (rh x)<=B.length:=LJ _ _;refine Yd.jn (fun t':Int=>t'=(cnt (B++[p]) (rh x):Int)) (fun t' h'=>Yd.bd (fF hB (by omega))<|xp t' h') fun Np lA=>?_
   have ca:cnt (B++[p]) (rh x)=cnt B (rh x)+bif decide (val (rh x) p=0) then 1 else 0:=by
    unfold cnt;rw[E1,List.length_append];cases hd:decide (val (rh x) p=0)<;>simp[hd]
   refine Yd.bd (fp hA) (Yd.bd ix (Yd.bd (WC ox (hC p<|at_mem hB) (by omega)) ?_));rw[sign_zero];refine Yd.cond (fun hc=>Yd.bd (aM ⟨by omega,by omega⟩) (lA _ (by rw[ca,hc,hQ];simp))) fun hc=>lA _ (by rw[ca,hc,hQ];simp)
  ·dsimp only;rw[cm,gN,a8];have e:decide (3<=t)=decide (3<=cnt C (rh x)):=l8.2 (by omega);rw[e];have fl:s.1.length<=A.length:=by rw[hP.1];exact LJ _ _
   refine Yd.cond (fun hc=>Yd.bd (fp hA) (Yd.bd (app_1 (by omega) (by omega))<|h5 _ ⟨?_,hP.2⟩)) fun hc=>h5 _ ⟨?_,hP.2⟩
   ·rw[E1,hP.1];simp[aZ hc]
   ·rw[E1,hP.1];simp[br hc]
 ·dsimp only;rw[gN,a8];have os:∀h∈s.1,xP h:=fun h mh=>o h (by rw[hP.1] at mh;exact(pW.1 mh).1)
  have sl:s.1.length<=l.length:=by rw[hP.1];exact LJ _ _
  refine Yd.each C (fun(t:att (att Int)) i=>((s.1,C.map eJ,t),i)) (fun B t=>t.length=B.length) (fun B p E t k7 hB hQ xp=>?_) (fun t k7 hQ=>?_) (s0:=s.2.2) (by rw[hP.2];rfl) (by omega)
  ·dsimp only;rw[cm,jM hB,bD];have bl:=jm hB;have ix:bo (C.map eJ) (B.length:Int)=some (eJ p):=by
    have:=fp hB;rw[Io] at this⊢;rw[kD,this];rfl
   exact Yd.bd ix (Yd.iG (TC os (by omega)<|hC p<|at_mem hB) fun r _=>Yd.bd (app_1 (by omega) (by omega)) (Yd.bd (fF hB (by omega)) (xp _ (by simp;omega))))
  ·dsimp only;rw[cm,gN,a8];exact Yd.mk hP.1
theorem J3(o:∀h∈l,xP h)(hl:l.length<=50):
  Yd (fun r=>(r.2=13/\ ¬zQ (l.map rh))\/(r.2=12/\zQ (l.map rh)/\ ¬IK (l.map rh))\/(r.2=0/\zQ (l.map rh)/\IK (l.map rh)/\r.1.1.Pairwise Gz/\∀S,nu S (l.map rh)->∀h,h∈r.1.1↔h∈l/\rh h∈S.map (·.1))) (nJ l):=by
 unfold nJ;refine Yd.iG (RJ o hl) fun b hb=>Yd.cond (fun hc=>Yd.mk<| .inl ⟨rfl,fun c=>?_⟩) fun hc=>?_
 ·rw[hb.2 c] at hc;cases hc
 have hB:zQ (l.map rh):=hb.1 (by simpa using hc);refine Yd.iG (Zd o hl) fun s ⟨S,sl⟩=>?_
 have os:∀h∈s,xP h:=fun h mh=>o h<|S.sub h mh
 have L:=S.least;refine Yd.iG (R2 os (by omega)) fun r hr=>?_
 obtain⟨C,c1,c2,c3,c4,c5⟩:=hr;have aoz:s.length*(s.length*s.length)<=125000:=pc (show s.length<=50 by omega) (pc (show s.length<=50 by omega) (show s.length<=50 by omega));have cv:∀p,p∈C↔rG (s.map rh) p:=fun p=>by rw[c5,aeT]
 rw[c1];refine Yd.iG (abe c3 (by omega)) fun d hd=>?_
 rcases hd with⟨d3,m,m0,c,hm⟩|⟨rfl,a,ma,b,mb,c,mc,d,md,ap3⟩
 ·rw[aW d3,bD];exact Yd.mk<| .inr<| .inl ⟨rfl,hB,Ts hB m0 fun p hp=>hm p<|(cv p).2<|(L.vtx p).2 hp⟩
 ·rw[show decide ((3:Int)<3)=false from rfl,a8];have mem:∀{p},p∈C->Mem (l.map rh) p:=fun mp=>((L.vtx _).1<|(cv _).1 mp).1
  refine Yd.iG (adA os (by omega) c3 (by omega)) fun D hD=>Yd.mk<| .inr<| .inr ⟨rfl,hB,ade (fun k mk=>(xP.ahp o k mk).nz) (mem ma) (mem mb) (mem mc) (mem md) ap3,?_,fun F hF h=>?_⟩
  ·show D.1.Pairwise Gz;rw[hD];exact S.asc.filter _
  ·show h∈D.1↔_;rw[hD,pW,jc];have fh:=UB hF L cv c2;constructor
   ·rintro⟨mh,h3⟩;exact⟨S.sub h mh,(fh<|rh h).2 ⟨bT.2 ⟨h,mh,rfl⟩,h3⟩⟩
   ·rintro⟨mh,mf⟩;obtain⟨m1,h3⟩:=(fh<|rh h).1 mf;obtain⟨g,mg,e⟩:=bT.1 m1;rw[QX (o h mh) (os g mg) e.symm];exact⟨mg,by rw[e];exact h3⟩
theorem OQ(o:∀h∈l,xP h)(hc:kV l=some 0)(hl:l.length<=32):
  Yd (fun r=>(r=11/\ ¬Asc l)\/(Asc l/\((r=13/\ ¬zQ (l.map rh))\/(r=12/\zQ (l.map rh)/\ ¬IK (l.map rh))\/(zQ (l.map rh)/\IK (l.map rh)/\∃b:att bV,b.Pairwise Gz/\(∀S,nu S (l.map rh)->∀h,h∈b↔h∈l/\rh h∈S.map (·.1))/\r=bif decide (b.length<l.length) then 1 else 0)))) (kI l):=by
 unfold kI;rw[bC (show¬32<(l.length:Int) by omega),a8,hc];refine Yd.bd rfl ?_;show Yd _ (lp _ _ 1);have fin:Asc l->∀k:Int->av8 Int,Yd (fun r=>(r=11/\ ¬Asc l)\/(Asc l/\((r=13/\ ¬zQ (l.map rh))\/(r=12/\zQ (l.map rh)/\ ¬IK (l.map rh))\/(zQ (l.map rh)/\IK (l.map rh)/\∃b:att bV,b.Pairwise Gz/\(∀S,nu S (l.map rh)->∀h,h∈b↔h∈l/\rh h∈S.map (·.1))/\r=bif decide (b.length<l.length) then 1 else 0))))
   (bd (nJ l) fun kq=>cond ((decide<|kq.2=0)&&(decide<|(kq.1.1.length:Int)<(l.length:Int))) (some 1)<|some kq.2):=fun hP _=>by
  refine Yd.iG (J3 o (by omega)) fun r hr=>?_
  rcases hr with⟨e,h⟩|⟨e,h1,h2⟩|⟨e,h1,h2,h3,h4⟩
  ·rw[e];exact Yd.mk<| .inr ⟨hP,.inl ⟨rfl,h⟩⟩
  ·rw[e];exact Yd.mk<| .inr ⟨hP,.inr<| .inl ⟨rfl,h1,h2⟩⟩
  ·rw[e];have hd:decide ((r.1.1.length:Int)<(l.length:Int))=decide (r.1.1.length<l.length):=l8.2 (by omega);rw[hd];show Yd _ (cond (decide<|r.1.1.length<l.length) (some 1)<|some 0);cases hq:decide (r.1.1.length<l.length)
   ·exact Yd.mk (.inr ⟨hP,.inr (.inr ⟨h1,h2,r.1.1,h3,h4,by rw[hq];rfl⟩)⟩)
   ·exact Yd.mk (.inr ⟨hP,.inr (.inr ⟨h1,h2,r.1.1,h3,h4,by rw[hq];rfl⟩)⟩)
 cases l with
 |nil=>
  obtain⟨F,hF⟩:∃F,18446744073709551616=F+1:=⟨18446744073709551615,rfl⟩;rw[hF];exact fin (fun A x y C e=>by cases A<;>cases e) fun _=>none
 |cons a T=>
  refine Yd.from (a::T) (fun(_:Unit) i=>i) (fun A _=>A≠[]/\Asc A) (fun A x C s k hA hP next=>?_) (fun s k hP=>?_) [a] T (s0:=()) rfl ⟨by simp,fun A x y C e=>by
    have:=congrArg List.length e;simp at this;omega⟩ (by omega)
  ·rw[jM hA,bD];obtain⟨h0,hP⟩:=hP;obtain rfl|⟨B,y,rfl⟩:A=[]\/∃B y,A=B++[y]:=(List.eq_nil_or_concat A).imp id fun⟨B,y,h⟩=>⟨B,y,by rw[h,List.concat_eq_append]⟩
   ·exact absurd rfl h0
   ·have i1:bo (a::T) (B.length:Int)=some y:=by rw[Io,hA];simp
    have i2:=fp hA;have al:=jm hA;have f:=fF hA (by omega);have en:(B++[y]).length=B.length+1:=by simp
    have nx:=next ()
    have asc:=YH (l:=a::T) (A:=B) (x:=y) (y:=x) (C:=C) (by rw[hA];simp) hP
    generalize (B++[y]).length=m at*
    subst en;refine Yd.bd (x:=(B.length:Int)) (by rw[aM ⟨by omega,by omega⟩];exact congrArg some (by omega))<|Yd.bd i1<|Yd.bd i2<|Yd.bd (MV y.1 x.1) ?_
    refine Yd.cond (fun hv=>Yd.mk<| .inl ⟨rfl,fun c=>?_⟩) fun hv=>Yd.bd f (nx ⟨by simp,asc (by simpa using hv)⟩)
    have:=c B y x C (by rw[hA];simp);have h9: ¬O5 y.1 x.1:=by simpa using hv
    exact h9 this
  ·rw[gN,a8];exact fin hP.2 k
theorem abm{b:att bV}{S:att iK}(o:∀h∈l,xP h)(I:nu S (l.map rh))(hb:b.Pairwise Gz)(hm:∀h,h∈b↔h∈l/\rh h∈S.map (·.1)):b.length=S.length:=by
 have nS:(S.map (·.1)).Nodup:=yu.2<|I.WH.imp fun h=>h
 have nb:(b.map rh).Nodup:=yu.2 (LN (fun{x y} mx my h e=>by
  rw[QX (o x ((hm x).1 mx).1) (o y ((hm y).1 my).1) e] at h;exact R5 _ h) hb)
 have h1:=tQ nb fun x mx=>by
  obtain⟨h,mh,rfl⟩:=bT.1 mx;exact((hm h).1 mh).2
 have h2:=tQ nS fun x mx=>by
  obtain⟨f,mf,rfl⟩:=bT.1 mx;obtain⟨h,mh,e⟩:=bT.1 (I.zF f mf).1;refine bT.2 ⟨h,(hm h).2 ⟨mh,?_⟩,e⟩;rw[e];exact bT.2 ⟨f,mf,rfl⟩
 rw[c7,c7] at h1 h2;omega
theorem VD{s:ad3}(h:s.length<=100):sH s=some 0:=by
 have ahj:Yd (fun k=>0<=k/\k<=(s.length:Int)) (fP s):=by
  unfold fP;refine Yd.each s (fun(_:Unit) i=>i) (fun A _=>True) (fun A x C u k hA _ next=>?_) (fun u k _=>?_) (s0:=()) trivial (by omega)
  ·have al:=jm hA;rw[jM hA,bD];exact Yd.bd (fp hA) (Yd.cond (fun _=>Yd.mk ⟨by omega,by omega⟩) fun _=>Yd.bd (fF hA (by omega))<|next () trivial)
  ·rw[gN,a8];exact Yd.mk ⟨by omega,by omega⟩
 have sgn:∀t:ad3,Yd (fun r=>r<0->0<t.length) (jg t):=fun t=>by
  unfold jg;refine Yd.cond (fun _=>Yd.mk fun c=>absurd c<|Int.lt_irrefl 0) fun _=>?_
  cases t with
  |nil=>exact Yd.mk fun c=>absurd c (by decide)
  |cons x t=>
   rw[aW (show(0:Int)<((x::t).length:Int) by simp),show gd true true=true from rfl,eG rfl];exact Yd.bd (x:=x) rfl (Yd.cond (fun _=>Yd.mk fun _=>by simp) fun _=>Yd.mk fun _=>by simp)
 have abs:∀t:ad3,t.length<=100->Yd (fun r=>r.length<=100) (Ag t):=fun t ht=>by
  unfold Ag;refine Yd.iG (sgn t) fun r hr=>Yd.cond (fun hc=>?_) fun _=>Yd.mk ht
  have:=hr<|aZ hc
  exact Yd.bd (im (by omega) (by omega) (by omega)) (Yd.mk (by rw[lr,List.length_take];omega))
 have num:Yd (fun r=>r.length<=100) (Ad s):=by
  unfold Ad;exact Yd.iG ahj fun k hk=>Yd.bd (im (by omega) (by omega) (by omega)) (Yd.mk (by rw[lr,List.length_take];omega))
 have den:Yd (fun r=>r.length<=100) (Ae s):=by
  unfold Ae;refine Yd.iG ahj fun k hk=>Yd.cond (fun _=>Yd.mk (by decide)) fun hc=>?_
  have:=br hc;exact Yd.bd (aM ⟨by omega,by omega⟩) (Yd.bd (im (by omega) (by omega) (by omega)) (Yd.mk (by rw[lr,List.length_take];omega)))
 have key:Yd (fun r=>r=0) (sH s):=by
  unfold sH;refine Yd.iG num fun a ha=>Yd.iG (abs a ha) fun b hb=>?_
  rw[bC (show¬(600:Int)<(b.length:Int) by omega),show gd false false=true from rfl,eG rfl];refine Yd.iG den fun c hc=>?_
  rw[bC (show¬(600:Int)<(c.length:Int) by omega)];exact Yd.mk rfl
 obtain⟨r,e,rfl⟩:=key;exact e
theorem RH(h:∀x∈l,x.2.length<=100)(hl:l.length<=100000000):kH l=some 0:=by
 have key:Yd (fun r=>r=0) (kH l):=by
  unfold kH;refine Yd.each l (fun(_:Unit) i=>i) (fun A _=>True) (fun A x C u k hA _ next=>?_) (fun u k _=>?_) (s0:=()) trivial (by omega)
  ·rw[jM hA,bD];refine Yd.bd (fp hA)<|Yd.bd (VD<|h x<|at_mem hA) ?_
   rw[show(!decide ((0:Int)=0))=false from rfl,a8];exact Yd.bd (fF hA hl)<|next () trivial
  ·rw[gN,a8];exact Yd.mk rfl
 obtain⟨r,e,rfl⟩:=key;exact e
theorem Tb(hl:l.length<=100000000):fH l l=some true:=by
 have key:Yd (fun r=>r=true) (fH l l):=by
  unfold fH;rw[aW rfl,Am,a8];refine Yd.each l (fun(_:Unit) i=>i) (fun A _=>True) (fun A x C u k hA _ next=>?_) (fun u k _=>?_) (s0:=()) trivial (by omega)
  ·rw[jM hA,bD];refine Yd.bd (fp hA)<|Yd.bd (fp hA) ?_
   rw[aW rfl,Am,a8];exact Yd.bd (fF hA hl)<|next () trivial
  ·rw[gN,a8];exact Yd.mk rfl
 obtain⟨r,e,rfl⟩:=key;exact e
theorem QT(hl:l.length<=259):Yd (fun b=>b=true->∀h∈l,h.2.length<=14) (qb l 259 14):=by
 unfold qb;refine Yd.cond (fun _=>Yd.mk fun c=>by cases c) fun _=>?_
 refine Yd.each l (fun(_:Unit) i=>i) (fun A _=>∀h∈A,h.2.length<=14) (fun A x C u k hA hP next=>?_) (fun u k hP=>?_) (s0:=()) (by simp) (by omega)
 ·rw[jM hA,bD];refine Yd.bd (fp hA) (Yd.cond (fun _=>Yd.mk fun c=>by cases c) fun hc=>Yd.bd (fF hA (by omega))<|next () fun h mh=>?_);rcases bN.1 mh with m|m
  ·exact hP h m
  ·rw[cr.1 m];have:=br hc;omega
 ·rw[gN,a8];exact Yd.mk fun _=>hP
theorem N4(w:Int)(h:w≠0)(l:att bV):ln [] w w l=some true:=by
 unfold ln;rw[bC h];show cond (!decide (w=0)) _ _=_;rw[bC h];show some (decide (0=0)&&decide (w=w))=_;rw[aW rfl,aW rfl];rfl
theorem aay(h:∀x∈l,x.2.length<=100)(hl:l.length<=100000000):ln l 0 0 l=some true:=by
 unfold ln;show bd (kH l) _=_;rw[RH h hl];show iJ true false (fH l l) _=_;rw[Tb hl];rfl
theorem IH(ha:lL=some true)(l:att bV)(hi:∀h∈l,in3 h.1):iv l=some true:=by
 have key:Yd (fun r=>r=true) (iv l):=by
  have aw:Yd (fun r=>r=true) (bd (some true) fun x4=>some x4):=Yd.mk rfl;unfold iv;rw[ha];by_cases Fu:(10<l.length/\l.length<=256)\/259<l.length
  ·have e:((decide (10<(l.length:Int))&&decide ((l.length:Int)<=256))||decide (259<(l.length:Int)))=true:=by
    rcases Fu with⟨a,b⟩|a
    ·rw[aW (show(10:Int)<l.length by omega),aW (show(l.length:Int)<=256 by omega)];rfl
    ·rw[aW (show(259:Int)<l.length by omega),Bool.or_true]
   rw[e];exact aw
  ·have e:((decide (10<(l.length:Int))&&decide ((l.length:Int)<=256))||decide (259<(l.length:Int)))=false:=by
    rw[se,Bool.and_eq_false_iff];refine⟨?_,bC (by omega)⟩;by_cases h:10<l.length
    ·exact .inr (bC (by omega))
    ·exact .inl (bC (by omega))
   rw[e,show gd false false=true from rfl,eG rfl];refine Yd.iG (QT (by omega)) fun b hb=>Yd.cond (fun _=>aw) fun hc=>?_
   have short:=hb (by simpa using hc);by_cases avB:256<l.length
   ·have nl:gI l=some ([],5):=by
     unfold gI;rw[aW (show(256:Int)<(l.length:Int) by omega)];rfl
    have cb:ie l=some 5:=by
     unfold ie jJ;rw[aW (show(32:Int)<(l.length:Int) by omega)];rfl
    refine Yd.bd nl ?_;rw[aW (show(256:Int)<(l.length:Int) by omega),bD];show Yd _ (bd (ie l) _);rw[cb];exact Yd.mk rfl
   ·have l10:l.length<=10:=by omega
    obtain⟨c,c1,c2,c3⟩:=JI (fun h mh=>⟨hi h mh,short h mh⟩) (by omega);have d256:decide ((256:Int)<(l.length:Int))=false:=bC (by omega);have d32:decide ((32:Int)<(l.length:Int))=false:=bC (by omega);by_cases h0:c=0
    ·subst h0;have o:=c3 rfl;obtain⟨b,b1,b2⟩:=ZN o c1 (by omega);obtain⟨k,k1,k2⟩:=WT o c1 (by omega);obtain⟨r,r1,r2⟩:=OQ o c2 (by omega);obtain⟨w,w1,w2⟩:=J3 o (by omega);have kr:k.2=r:=by
      rcases k2 with⟨e,h⟩|⟨h,k2⟩<;>rcases r2 with⟨e',h'⟩|⟨h',r2⟩
      ·rw[e,e']
      ·exact absurd h' h
      ·exact absurd h h'
      ·rcases k2 with⟨e,n⟩|⟨e,n1,n2⟩|⟨I,e⟩<;>rcases r2 with⟨e',n'⟩|⟨e',n1',n2'⟩|⟨n1',n2',b',p1,p2,e'⟩
       ·rw[e,e']
       ·exact absurd n1' n
       ·exact absurd n1' n
       ·exact absurd n1 n'
       ·rw[e,e']
       ·exact absurd n2' n2
       ·exact absurd I.bdd n'
       ·exact absurd I.int n2'
       ·rw[e,e',abm o I p1<|p2 _ I]
     refine Yd.bd b1 ?_;rw[d256,a8];refine Yd.bd (x:=k.2) (by unfold ie;rw[k1];rfl)<|Yd.bd r1 ?_
     rw[kr,aW rfl,Am,a8,c2];refine Yd.bd rfl ?_;show Yd _ (bd (nJ l) _);rw[w1];show Yd _ (bd (ln b.1 b.2 w.2 w.1.1) _);have same:ln b.1 b.2 w.2 w.1.1=some true:=by
      rcases b2 with⟨e1,e2,n⟩|⟨e1,e2,n1,n2⟩|⟨e2,S,I,s1,s2,s3⟩<;>rcases w2 with⟨e',n'⟩|⟨e',n1',n2'⟩|⟨e',n1',n2',p1,p2⟩
      ·rw[e1,e2,e'];exact N4 13 (by decide) _
      ·exact absurd n1' n
      ·exact absurd n1' n
      ·exact absurd n1 n'
      ·rw[e1,e2,e'];exact N4 12 (by decide) _
      ·exact absurd n2' n2
      ·exact absurd I.bdd n'
      ·exact absurd I.int n2'
      ·have eq:b.1=w.1.1:=Ze s2 p1 (fun x _ y _ a c=>R5 _<|W8 a c) fun h=>by rw[s3,p2 S I]
       rw[e2,e',<-eq];have bl:b.1.length<=10:=by have:=I.len;rw[c7] at this;omega
       exact aay (fun x mx=>df (short x ((s3 x).1 mx).1) (by omega)) (by omega)
     rw[same];exact Yd.mk rfl
    ·have nl:gI l=some ([],c):=by
      unfold gI;rw[d256,a8,c1];show cond (!decide (c=0)) _ _=_;rw[bC h0];rfl
     have cb:ie l=some c:=by
      unfold ie jJ;rw[d32,a8,c1];show bd (cond (!decide (c=0)) _ _) _=_;rw[bC h0];rfl
     have rb:kI l=some c:=by
      unfold kI;rw[d32,a8,c2];show cond (!decide (c=0)) _ _=_;rw[bC h0];rfl
     refine Yd.bd nl ?_;rw[d256,a8];refine Yd.bd cb<|Yd.bd rb ?_
     rw[aW rfl,Am,a8,c2];refine Yd.bd rfl ?_;rw[bC h0];show Yd _ (bd (ln [] c c []) _);rw[N4 c h0];exact Yd.mk rfl
 obtain⟨r,e,rfl⟩:=key;exact e
abbrev O4:att bV:=[((-1,0,0),[48]),((0,-1,0),[48]),((0,0,-1),[48]),((0,0,1),[52]),((0,1,0),[51]),((1,0,0),[50])]
abbrev bxC:att bV:=[((-1,0,0),[45,49]),((0,-1,0),[45,49]),((0,0,-1),[45,49]),((0,0,1),[53]),((0,1,0),[52]),((1,0,0),[51])]
abbrev bxD:att bV:=[((-1,0,0),[45,50]),((0,-1,0),[48]),((0,0,-1),[48]),((0,0,1),[49]),((0,1,0),[49]),((1,0,0),[51])]
theorem aoF:zj [O4]=some ([50,52],0):=aH
theorem aoQ:DY [O4] [bxC]=some ([[((-1,0,0),[45,49]),((0,-1,0),[45,49]),((0,0,-1),[45,49]),((0,0,1),[52]),((0,1,0),[51]),((1,0,0),[50])]],0):=aH
theorem aoM:A8 [O4] [bxC]=some ([[((-1,0,0),[48]),((0,-1,0),[48]),((0,0,-1),[48]),((0,0,1),[52]),((0,1,0),[51]),((1,0,0),[49])],[((-1,0,0),[45,49]),((0,-1,0),[48]),((0,0,-1),[48]),((0,0,1),[52]),((0,1,0),[49]),((1,0,0),[50])],[((-1,0,0),[45,49]),((0,-1,0),[45,49]),((0,0,-1),[48]),((0,0,1),[49]),((0,1,0),[51]),((1,0,0),[50])]],0):=aH
theorem aoP:DX [O4] ((1,1,0),[51])=some ([[((-1,0,0),[48]),((0,-1,0),[48]),((0,0,-1),[48]),((0,0,1),[52]),((1,0,0),[50]),((1,1,0),[51])]],0):=aH
theorem aoI:xG [O4] ((1,1,0),[51])=some (([56],[56],[48]),0):=aH
theorem aoH:vZ [O4] [bxD]=some ([(((1,0,0),[50]),[49],[48],[48])],0):=aH
theorem aoG:A6 [O4] [bxD]=some ([O4,bxD],0):=aH
theorem aoK:oE [O4] ([50],[49,47,50],[49,47,50])=some (0,0):=aH
theorem aoJ:oE [O4,bxD] ([50],[49,47,50],[49,47,50])=some (1,0):=aH
theorem aoN:Cm [([48],[48],[48]),([49],[48],[48]),([48],[49],[48]),([48],[48],[49])]=some ([((-1,0,0),[48]),((0,-1,0),[48]),((0,0,-1),[48]),((1,1,1),[49])],0):=aH
theorem aoE:A7 O4 ([48],[48],[49])=some ([((-1,0,0),[48]),((0,-1,0),[48]),((0,0,-1),[48]),((0,0,1),[53]),((0,1,0),[51]),((1,0,0),[50])],0):=aH
theorem aoD:zk [O4]=some (([49],[51,47,50],[50]),0):=aH
theorem aoL:gI (O4.take 3)=some ([],13):=aH
theorem aoO:gI (O4++[((1,0,0),[48])])=some ([],12):=aH
theorem ZV:lL=some true:=by
 have key:Yd (fun r=>r=true) lL:=by
  unfold lL;refine Yd.bd (x:=O4) rfl ?_;refine Yd.bd (x:=bxC) rfl ?_;refine Yd.bd (x:=bxD) rfl ?_;refine Yd.bd aoF ?_;refine Yd.bd aoQ ?_;refine Yd.bd aoM ?_;refine Yd.bd (x:=((1,1,0),[51])) rfl ?_;refine Yd.bd aoP ?_;refine Yd.bd (x:=((1,1,0),[51])) rfl ?_;refine Yd.bd aoI ?_;refine Yd.bd aoH ?_;refine Yd.bd aoG ?_;refine Yd.bd aoK ?_;refine Yd.bd aoJ ?_;refine Yd.bd (x:=([48],[48],[48])) aH ?_;refine Yd.bd (x:=([49],[48],[48])) aH ?_;refine Yd.bd (x:=([48],[49],[48])) aH ?_;refine Yd.bd (x:=([48],[48],[49])) aH ?_;refine Yd.bd aoN ?_;refine Yd.bd (x:=O4) rfl ?_;refine Yd.bd (x:=([48],[48],[49])) aH ?_;refine Yd.bd aoE ?_;refine Yd.bd aoD ?_;refine Yd.bd (x:=O4) rfl ?_;refine Yd.bd (x:=O4.take 3) rfl ?_;refine Yd.bd aoL ?_;refine Yd.bd (x:=O4) rfl ?_;refine Yd.bd (x:=O4) rfl ?_;refine Yd.bd (x:=((1,0,0),[48])) rfl ?_;refine Yd.bd (x:=O4++[((1,0,0),[48])]) rfl ?_;refine Yd.bd aoO ?_;exact⟨true,aH,rfl⟩
 obtain⟨r,e,rfl⟩:=key;exact e
theorem II(l:att bV)(hi:∀h∈l,in3 h.1):iv l=some true:=IH ZV l hi
end
end Trn
