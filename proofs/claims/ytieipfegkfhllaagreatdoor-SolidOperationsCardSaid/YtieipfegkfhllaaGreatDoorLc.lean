/-
  Part of the proof of SolidOperations.
-/
import Derived.Test.YtieipfegkfhllaaGreatDoorLb
set_option maxRecDepth 100000
set_option maxHeartbeats 20000000
set_option linter.all false
open Go Go.RowKit Go.Proofs Go.Proofs.Tryz
namespace Trn
section
variable{l:A3 Bc}{h:Bc}
theorem tw(hl:∀h∈l,in3 h.1/\h.2.length<=14)(hn:l.length<=100000000):∃c,XS l=some c/\bk l=some c/\(c=0->∀h∈l,Bp h):=by
 let f:Bc->Int:=λh=>(P6 h).getD 0
 have hf:∀h∈l,P6 h=some (f h)/\RL h=some (f h)/\(f h=0->Bp h):=λh mh=>by let⟨c,c1,c2,c3⟩:=uW (hl h mh).1 (hl h mh).2;have:f h=c:=AK;rw[this];exact⟨c1,c2,c3⟩
 let g:A3 Bc->Int:=λl=>((l.map f).find? λc=> !decide (c=0)).getD 0
 have one:∀(chk:Bc->AA Int),(∀h∈l,chk h=some (f h))->Yd (λr=>r=g l) (B7 (λk2 (s1:Int)=>cond (decide<|s1<(l.length:Int)) (bd (AB l s1) λx4=>bd (chk x4) λx6=>cond (!decide (x6=0)) (some x6)<|bd (AH<|s1+1) λx9=>k2 x9)<|some 0) 0):=by
  intro chk au4;refine C9 l (λ(_:Unit) i=>i) (λA _=>∀h∈A,f h=0) (λA x C s k hA hP next=>?_) (λs k hP=>?_) (s0:=()) AV A4
  ·rw[CD hA,BH];refine A6 (Bk hA)<|A6 (au4 x<|at_mem hA)<|Ad (λhc=>AU ?_) λhc=>A6 (C4 hA A4)<|next () λh mh=>?_
   ·grind
   ·grind
  ·rw[CG,Ar];refine AU ?_;show _=((l.map f).find? _).getD 0;rw[List.find?_eq_none.2 (λc mc=>by obtain⟨h,mh,rfl⟩:=BR.1 mc;rw[hP h mh];simp)];rfl
 obtain⟨r,r1,rfl⟩:=one P6 λh mh=>(hf h mh).1
 obtain⟨r,r2,rfl⟩:=one RL λh mh=>(hf h mh).2.1
 refine⟨g l,r1,r2,λe h mh=>(hf h mh).2.2 ?_⟩;refine Cr λhne=>?_
 have:((l.map f).find? λc=> !decide (c=0)).getD 0=0:=e;cases hF:(l.map f).find? λc=> !decide (c=0) with
 |none=>exact List.find?_eq_none.1 hF (f h) (BR.2 ⟨h,mh,rfl⟩) (by simpa using hne)
 |some c=>rw[hF] at this;have c0:c=0:=this;have:=List.find?_some hF;rw[c0] at this;cases this
def nd(q:Rat)(m d:Nat):Prop:=q.num.natAbs<=m/\q.den<=d
def nd3(p:Q3)(m d:Nat):Prop:=nd p.1 m d/\nd p.2.1 m d/\nd p.2.2 m d
def Bp.nd{h:Bc}(o:Bp h):nd3 (rh h).1 1000000000 1:=by
 have k:∀{x:Int},EY x=false->Trn.nd (x:Rat) 1000000000 1:=λ{x} hx=>by have:=My hx;exact⟨by rw[SD];omega,by rw[U9];omega⟩
 exact⟨k o.x,k o.y,k o.z⟩
def qk{x:Int}(h:EY x=false):qF x=some (x:Rat):=by have:=My h;unfold qF;rw[EO ⟨A4,A4⟩];rfl
def Bp.from(o:Bp h):VA h=some (rh h):=by unfold VA NV;rw[qk o.x,qk o.y,qk o.z,o.num.2.2];rfl
def zy(o:∀h∈l,Bp h)(hl:l.length<=100000000):VR l=some (l.map rh):=by
 refine GJ ?_;unfold VR;refine C9 l (λ(s:A3 H3) i=>(s,i)) (λA s=>s=A.map rh) (λA x C s k hA hP next=>?_) (λs k hP=>?_) (s0:=[]) rfl A4
 ·dsimp;rw[CD hA,BH];have al:=Cn hA;exact A6 (Bk hA) (A6 (o x<|at_mem hA).from (A6 (app_1 A4 (by rw[hP,BY];omega)) (A6 (C4 hA A4) (next _ (by rw[hP,G9];rfl)))))
 ·dsimp;rw[CG,Ar];exact AU hP
def Je(a b:N3):Prop:=a.1<b.1\/a.1=b.1/\(a.2.1<b.2.1\/a.2.1=b.2.1/\a.2.2<b.2.2)
instance(a b:N3):Decidable (Je a b):=by unfold Je;exact inferInstance
theorem nC(a b:Int):Uz a b=some (bif decide (a<b) then -1 else bif decide (b<a) then 1 else 0):=by
 unfold Uz Xj;rw[B5 rfl,B5 rfl];simp[bd,Qd,Ar];cases decide (a<b)
 ·grind
 ·rfl
def y9(a b:N3):∃v,VB a b=some v/\(v<0↔Je a b):=by
 unfold VB;rw[nC,nC,nC];simp[bd];rw[or3];refine⟨_,rfl,?_⟩;let⟨a1,a2,a3⟩:=a;let⟨b1,b2,b3⟩:=b;unfold Je;simp only;have MB:∀x y:Int,(x<y/\ ¬y<x/\x≠y)\/(¬x<y/\ ¬y<x/\x=y)\/(¬x<y/\y<x/\x≠y):=λx y=>by omega
 rcases MB a1 b1 with⟨h1,h2,h3⟩|⟨h1,h2,h3⟩|⟨h1,h2,h3⟩<;>rcases MB a2 b2 with⟨g1,g2,g3⟩|⟨g1,g2,g3⟩|⟨g1,g2,g3⟩<;>rcases MB a3 b3 with⟨k1,k2,k3⟩|⟨k1,k2,k3⟩|⟨k1,k2,k3⟩<;>simp[h1,h2,h3,g1,g2,g3,k1,k2,k3]
theorem nN(a b:N3):VD a b=some (decide<|Je a b):=by
 refine GJ ?_;unfold VD;refine C9 [(a.1,b.1),(a.2.1,b.2.1),(a.2.2,b.2.2)] (λ(_:Unit) i=>i) (λA _=>∀p∈A,p.1=p.2) (λA x C s k hA hP next=>?_) (λs k hP=>?_) (s0:=()) AV AV
 ·have al:=Cn hA;rw[show [(a.1,b.1),(a.2.1,b.2.1),(a.2.2,b.2.2)].length=3 from rfl] at al;rw[B5 (show(A.length:Int)<3 by omega),BH];have ix:=Bk hA;have i1:AB [a.1,a.2.1,a.2.2] (A.length:Int)=some x.1:=by rw[JT] at ix⊢;have:=congrArg (Option.map (·.1)) ix;rwa [<-H9] at this
  have i2:AB [b.1,b.2.1,b.2.2] (A.length:Int)=some x.2:=by rw[JT] at ix⊢;have:=congrArg (Option.map (·.2)) ix;rwa [<-H9] at this
  refine A6 i1<|A6 i2<|Ad (λhc=>A6 i1<|A6 i2<|AU<|Ha.2 ?_) λhc=>A6 (C4 hA AV)<|next () λp mp=>?_
  ·have hne:x.1≠x.2:=by simpa using hc
   unfold Je;rcases A with _|⟨a0,_|⟨a1,_|⟨a2,A⟩⟩⟩
   ·grind
   ·grind
   ·grind
   ·simp at al
  ·grind
 ·rw[show decide ((([(a.1,b.1),(a.2.1,b.2.1),(a.2.2,b.2.2)].length:Nat):Int)<3)=false from rfl,Ar];refine AU (Bu ?_).symm;have h0:=hP _ (by simp:(a.1,b.1)∈_);have h1:=hP _ (by simp:(a.2.1,b.2.1)∈_);have h2:=hP _ (by simp:(a.2.2,b.2.2)∈_);dsimp only at h0 h1 h2;unfold Je;omega
theorem Bp.text(o:Bp h):Xi (rh h)=some (h,true):=by
 refine GJ ?_;have one:∀{z:Int},z=1->DB z=true:=λe=>by rw[e];rfl
 have r1:rh h=(((h.1.1:Rat),(h.1.2.1:Rat),(h.1.2.2:Rat)),(rh h).2):=rfl;have ab:∀{x:Int},EY x=false->x.natAbs<=999999999:=λhx=>by have:=My hx;omega
 have kC:∀{x:Rat},lv 14 x->x.num.natAbs<10^600/\x.den<10^600:=λhx=>by
  have:=N9 hx;have p:∀a b:Nat,a<=b->(10:Nat)^a<=10^b:=λa b h=>KD A4 h
  have e:=p (14+1) 600 A4;exact⟨Jn this.1 e,Jn this.2 e⟩
 have norm:Yd (λr=>r=rh h) (Uw<|rh h):=by
  unfold Uw;refine A6 (x:=1) rfl ?_;refine C9 [h.1.1,h.1.2.1,h.1.2.2] (λ(s:Int) i=>(s,i)) (λA s=>s=1) (λA x C s k hA hP next=>?_) (λs k hP=>?_) (s0:=1) rfl AV
  ·have al:=Cn hA;rw[show [h.1.1,h.1.2.1,h.1.2.2].length=3 from rfl] at al;dsimp;rw[B5 (show(A.length:Int)<3 by omega),BH];have ix:AB [(rh h).1.1,(rh h).1.2.1,(rh h).1.2.2] (A.length:Int)=some (x:Rat):=by have ix:=Bk hA;rw[JT] at ix⊢;have:=congrArg (Option.map (λx:Int=>(x:Rat))) ix;rwa [<-H9] at this
   subst hP;have dn:(((x:Rat).den:Nat):Int)=1:=by rw[U9];rfl
   refine A6 ix ?_;rw[dn];exact A6 (x:=1) rfl<|A6 (x:=1) rfl<|A6 (x:=1) rfl<|A6 (C4 hA AV)<|next 1 rfl
  ·dsimp only;rw[show decide ((([h.1.1,h.1.2.1,h.1.2.2].length:Nat):Int)<3)=false from rfl,Ar,hP];refine A6 (x:=(1:Rat)) rfl<|A6 (x:=0) rfl ?_
   refine C9 [h.1.1,h.1.2.1,h.1.2.2] (λ(s:Int) i=>(s,i)) (λA s=>s=((A.foldl (λg x=>Nat.gcd g x.natAbs) 0:Nat):Int)) (λA x C s k hA hP next=>?_) (λs k hP=>?_) (s0:=0) rfl AV
   ·have al:=Cn hA;rw[show [h.1.1,h.1.2.1,h.1.2.2].length=3 from rfl] at al;rw[B5 (show(A.length:Int)<3 by omega),BH];have ix:AB [(rh h).1.1,(rh h).1.2.1,(rh h).1.2.2] (A.length:Int)=some (x:Rat):=by have ix:=Bk hA;rw[JT] at ix⊢;have:=congrArg (Option.map (λx:Int=>(x:Rat))) ix;rwa [<-H9] at this
    have fx:∀y∈[h.1.1,h.1.2.1,h.1.2.2],EY y=false:=by
     intro y my;simp at my;rcases my with rfl|rfl|rfl
     ·exact o.x
     ·exact o.y
     ·exact o.z
    have hx:=fx x<|at_mem hA
    have gl:A.foldl (λg x=>Nat.gcd g x.natAbs) 0<=999999999:=by
     have:∀(l:A3 Int) (g:Nat),g<=999999999->(∀y∈l,EY y=false)->l.foldl (λg x=>Nat.gcd g x.natAbs) g<=999999999:=by
      intro l
      induction l with
      |nil=>intro g hg _;exact hg
      |cons y l ih=>
       intro g hg hl;refine ih _ ?_ λz mz=>hl z<|C2 _ mz
       have:=ab<|hl y DT
       rcases LL g with e|e
       ·grind
       ·exact Cu (Nat.gcd_le_left _ e) hg
     exact this A 0 A4 λy my=>fx y (by rw[hA];simp[my])
    have q1:GH (x:Rat) 1=some (x:Rat):=by
     have o9:lv 9 (1:Rat):=Jm (d:=1) (.inl rfl) 9;rw[ZF (jJ hx<|BM 9) o9 A4 A4]
     congr 1;show(x:Rat)*1=x;grind
    refine A6 ix (A6 q1 (A6 (x:=(x.natAbs:Int)) (by rw[SD];rfl)<|A6 (x:=((Nat.gcd (A.foldl (λg x=>Nat.gcd g x.natAbs) 0) x.natAbs:Nat):Int)) ?_<|A6 (C4 hA AV)<|next _ ?_))
    ·unfold P2;rw[hP,gK (by rw[GB];omega),gK (by rw[GB];have:=ab hx;omega)];rfl
    ·grind
   ·dsimp only;rw[show decide ((([h.1.1,h.1.2.1,h.1.2.2].length:Nat):Int)<3)=false from rfl,Ar];have g1:s=1:=by rw[hP];show((Nat.gcd (Nat.gcd (Nat.gcd 0 _) _) _:Nat):Int)=_;rw[Nat.gcd_zero_left];have:=o.g;unfold Hv at this;rw[this];rfl
    rw[g1];have l1:lv 14 (1:Rat):=Jm (d:=1) (.inl rfl) 14;have e1:BX (rh h).1 1=(rh h).1:=J5;refine A6 (x:=(1:Rat)) rfl<|A6 (x:=(1:Rat)) ?_<|A6 (xO (o.lvn (n:=14) A4) l1 A4 A4).1<|A6 (ZF o.Jb l1 A4 A4)<|AU ?_
    ·rw[(abD l1 l1 A4 A4 (by show(1:Rat)≠0;grind)).1]
     congr 1;grind
    ·grind
 obtain⟨r,n1,rfl⟩:=norm;unfold Xi;refine A6 n1<|A6 (ajF (kC o.Jb).1 (kC o.Jb).2) ?_
 rw[<-o.txt];refine C9 [h.1.1,h.1.2.1,h.1.2.2] (λ(s:Bc) i=>(((0,0,0),[]),s,i)) (λA s=>s.2=h.2/\(0<A.length->s.1.1=h.1.1)/\(1<A.length->s.1.2.1=h.1.2.1)/\(2<A.length->s.1.2.2=h.1.2.2)) (λA x C s k hA hP next=>?_) (λs k hP=>?_) (s0:=((0,0,0),h.2)) ⟨rfl,AV,AV,AV⟩ AV
 ·have al:=Cn hA;rw[show [h.1.1,h.1.2.1,h.1.2.2].length=3 from rfl] at al;rw[B5 (show(A.length:Int)<3 by omega),BH];have ix0:=Bk hA;have ix:AB [(rh h).1.1,(rh h).1.2.1,(rh h).1.2.2] (A.length:Int)=some (x:Rat):=by have ix:=Bk hA;rw[JT] at ix⊢;have:=congrArg (Option.map (λx:Int=>(x:Rat))) ix;rwa [<-H9] at this
  have hx:EY x=false:=by
   have:=at_mem hA;simp at this;rcases this with rfl|rfl|rfl
   ·exact o.x
   ·exact o.y
   ·exact o.z
  have bx:=My hx;have i6:He x=true:=by unfold He;rw[B5 A4,B5 A4];rfl
  refine A6 ix<|A6 (x:=(x,true)) ?_ ?_
  ·unfold Pr;rw[SD,Bu A4,i6];rfl
  ·dsimp;rw[Bu (show¬999999999<x by omega),Bu (show¬x< -999999999 by omega)];simp[Qd,Bool.or_self,Ar];have hm:=hP;rw[Dg] at next
   generalize A.length=m at*
   have:m=0\/m=1\/m=2:=A4;rcases this with rfl|rfl|rfl
   ·exact A6 (x:=s.1.1) rfl (A6 (x:=1) rfl (next ((x,s.1.2.1,s.1.2.2),s.2) ⟨hP.1,λ_=>(E9 ix0).symm,λh=>by simp at h,λh=>by simp at h⟩))
   ·exact A6 (x:=s.1.2.1) rfl (A6 (x:=2) rfl (next ((s.1.1,x,s.1.2.2),s.2) ⟨hP.1,λ_=>hP.2.1 A4,λ_=>(E9 ix0).symm,λh=>by simp at h⟩))
   ·exact A6 (x:=s.1.2.2) rfl<|A6 (x:=3) rfl<|next ((s.1.1,s.1.2.1,x),s.2) ⟨hP.1,λ_=>hP.2.1 A4,λ_=>hP.2.2.1 A4,λ_=>(E9 ix0).symm⟩
 ·dsimp only;rw[show decide ((([h.1.1,h.1.2.1,h.1.2.2].length:Nat):Int)<3)=false from rfl,Ar];refine A6 (akk (kC o.Jb).1 (kC o.Jb).2)<|AU ?_
  have e:s=h:=Prod.ext (Prod.ext (hP.2.1 AV)<|Prod.ext (hP.2.2.1 AV)<|hP.2.2.2 AV) hP.1;rw[e];rfl
def WZ(a:N3): ¬Je a a:=by unfold Je;omega
def Wj{a b c:N3}:Je a b->Je b c->Je a c:=by unfold Je;omega
def qb(a b:N3):a=b\/Je a b\/Je b a:=by let⟨a1,a2,a3⟩:=a;let⟨b1,b2,b3⟩:=b;unfold Je;simp[Ls];omega
abbrev HN(a b:Bc):Prop:=Je a.1 b.1
theorem xw{S:A3 CC}{L:A3 H3}(I:CJ S L){f g:CC}(mf:f∈S)(mg:g∈S)(e:f.1.1=g.1.1):f.1=g.1:=by
 have le:∀{f g:CC},f∈S->g∈S->f.1.1=g.1.1->f.1.2<=g.1.2:=λ{f g} mf mg e=>by let⟨f1,_,f3,f4⟩:=I.EZ f mf;let⟨p,mp⟩:=List.exists_mem_of_ne_nil f.2 (λe=>by rw[e] at f3;simp at f3);let⟨vp,tp⟩:=(f4 p).1 mp;have:=vp.1 g.1 (I.EZ g mg).1;unfold val at this tp;rw[e] at tp;grind
 exact Prod.ext e<|Rat.le_antisymm (le mf mg e)<|le mg mf e.symm
def ane{S:A3 CC}(o:∀h∈l,Bp h)(I:CJ S (l.map rh))(hl:l.length<=32):Yd (λr=>r.2=0/\r.1.length=S.length/\r.1.Pairwise HN/\∀h,h∈r.1↔h∈l/\rh h∈S.map (·.1)) (T9 S):=by
 have SL:S.length<=32:=by have:=I.len;rw[BY] at this;omega
 unfold T9;refine C9 S (λ(s:A3 Bc×Bool) i=>(s.1,s.2,i)) (λA s=>s.2=false/\(∀h∈s.1,h∈l)/\s.1.map rh=A.map (·.1)) (λA f C s k hA hP next=>?_) (λs k hP=>?_) (s0:=([],false)) AV A4
 ·dsimp;rw[CD hA,BH];let⟨h,mh,e⟩:=BR.1 (I.EZ f<|at_mem hA).1;refine A6 (Bk hA) ?_;rw[<-e];refine A6 (o h mh).text ?_;have al:=Cn hA;have sl:s.1.length=A.length:=by rw[<-BY (f:=rh),hP.2.2,BY]
  have nz:decide (h.1=((0:Int),(0:Int),(0:Int)))=false:=Bu λc=>by have:=(o h mh).g;rw[c] at this;cases this
  rw[nz,Ar,hP.1];refine A6 (app_1 A4 A4)<|A6 (C4 hA A4)<|next (_,false) ⟨rfl,λg mg=>?_,?_⟩
  ·rcases Bs.1 mg with m|m
   ·exact hP.2.1 g m
   ·rw[Cl.1 m];exact mh
  ·rw[G9,G9,hP.2.2,List.map_singleton,List.map_singleton,e]
 ·dsimp;rw[CG,Ar];let⟨b,f⟩:=s;let⟨hf,hb,he⟩:=hP;dsimp only at*;subst hf;have bl:b.length=S.length:=by rw[<-BY (f:=rh),he,BY]
  rw[Bu (show¬32<(b.length:Int) by omega),Ar,Ar];have hin:∀h∈b,∃f∈S,f.1=rh h:=λh mh=>by have this:rh h∈b.map rh:=BR.2 ⟨h,mh,rfl⟩;rw[he] at this;exact BR.1 this
  have hO:M7 (λx:Bc×Bc=>Uu x.1 x.2<|λx=>XP x) HN b:=⟨λx _ y _=>by
   let⟨v,v1,v2⟩:=y9 x.1 y.1;refine⟨v,?_,v2⟩;show Uu x y _=_;unfold Uu XP;rw[Cm,Cm,v1];rfl,λx _=>WZ x.1,λx _ y _ z _=>Wj,λx mx y my=>by
   rcases qb x.1 y.1 with e|h
   ·left;let⟨f,mf,ef⟩:=hin x mx;let⟨g,mg,eg⟩:=hin y my;refine Pm (o x<|hb x mx) (o y<|hb y my) ?_;rw[<-ef,<-eg];refine xw I mf mg ?_;rw[ef,eg];show rn x.1=rn y.1;rw[e]
   ·exact .inr h⟩
  let⟨r,r1,r2,r3⟩:=pY hO A4;refine A6 (x:=r) (by unfold kZ;rw[r1];rfl) (AU ⟨rfl,by rw[r2.length_eq,bl],?_,λh=>?_⟩)
  ·have nd:b.Nodup:=by
    have:(b.map rh).Pairwise (· ≠ ·):=by rw[he];exact Nj.2<|I.RG.imp λh=>h
    exact(Nj.1 this).imp λh e=>h (by rw[e])
   exact UJ (λ{a b} ma mb h=>h.1.resolve_left h.2)<|r3.and<|r2.nodup_iff.2 nd
  ·show h∈r↔_;rw[r2.mem_iff];constructor
   ·intro mh;refine⟨hb h mh,?_⟩;rw[<-he];exact BR.2 ⟨h,mh,rfl⟩
   ·rintro⟨mh,m⟩;rw[<-he] at m;let⟨g,mg,e⟩:=BR.1 m;rw[<-Pm (o g<|hb g mg) (o h mh) e];exact mg
def HM(L:A3 H3):Prop:=∃o,∀k∈L,val k o<0
def aa5(o:∀h∈l,Bp h)(hl:l.length<=50):Yd (λr=>(r.2=13/\ ¬Ef (l.map rh))\/(r.2=12/\Ef (l.map rh)/\ ¬HM (l.map rh))\/(r.2=0/\CJ r.1 (l.map rh))) (YE l):=by
 have Fm:=Bp.Fm o;have pr:=Bp.Om o;have ll:(l.map rh).length=l.length:=BY _;unfold YE;refine A6 (zy o A4)<|Aq (ahw Fm A4 A4 A4 pr) λb hb=>?_
 refine Ad (λhc=>AU<| .inl ⟨rfl,λc=>?_⟩) λhc=>?_
 ·rw[hb.2 c] at hc;cases hc
 ·have hB:Ef (l.map rh):=hb.1 (by simpa using hc);refine Aq (zQ Fm A4 A4 A4 pr) λr hr=>?_
  rcases hr.O6 pr hB with⟨e,h⟩|⟨e,h⟩
  ·rw[e];exact AU<| .inr<| .inr ⟨rfl,h⟩
  ·rw[e];exact AU<| .inr<| .inl ⟨rfl,hB,h⟩
def Asc(l:A3 Bc):Prop:=∀A x y C,l=A++x::y::C->HN x y
def aal{A:A3 Bc}{x y:Bc}{C:A3 Bc}(e:l=A++x::y::C)(h:Asc (A++[x]))(b:HN x y):Asc (A++[x]++[y]):=by
 intro A' x' y' C' e';rcases iX C' with rfl|⟨D,z,rfl⟩
 ·have e2:A++[x]++[y]=(A'++[x'])++[y']:=by rw[e'];simp
  let⟨e3,e4⟩:=ZT e2 rfl;let⟨_,e5⟩:=ZT e3 rfl;cases e4;cases e5;exact b
 ·have e2:A++[x]++[y]=(A'++x'::y'::D)++[z]:=by rw[e'];simp
  let⟨e3,_⟩:=ZT e2 rfl;exact h A' x' y' D e3
def xD(o:∀h∈l,Bp h)(hc:XS l=some 0)(hl:l.length<=32):Yd (λr=>(r.2=11/\ ¬Asc l)\/(Asc l/\((r.2=13/\ ¬Ef (l.map rh))\/(r.2=12/\Ef (l.map rh)/\ ¬HM (l.map rh))\/(CJ r.1 (l.map rh)/\r.2=bif decide (r.1.length<l.length) then 1 else 0)))) (NK l):=by
 unfold NK;rw[Bu (show¬32<(l.length:Int) by omega),Ar,hc];refine A6 rfl ?_;show Yd _ (lp _ _ 0);refine C9 l (λ(_:Unit) i=>i) (λA _=>Asc A) (λA x C s k hA hP next=>?_) (λs k hP=>?_) (s0:=()) (λA x y C e=>by cases A<;>cases e) A4
 ·rw[CD hA,BH];obtain rfl|⟨B,y,rfl⟩:A=[]\/∃B y,A=B++[y]:=(iX A).imp id λ⟨B,y,h⟩=>⟨B,y,by rw[h,qP]⟩
  ·exact A6 (C4 hA A4) (next () λA' x' y' C' e=>by have:=congrArg List.length e;simp at this;omega)
  ·have i1:AB l (B.length:Int)=some y:=by rw[JT,hA];simp
   have i2:=Bk hA;have al:=Cn hA;have f:=C4 hA A4;let⟨v,v1,v2⟩:=y9 y.1 x.1;have en:(B++[y]).length=B.length+1:=AV;have nx:=next ()
   have GW:=aal (l:=l) (A:=B) (x:=y) (y:=x) (C:=C) (by rw[hA];simp) hP
   generalize (B++[y]).length=m at*
   subst en;have hpos:decide ((0:Int)<((B.length+1:Nat):Int))=true:=B5 A4;rw[hpos,show gd true true=true from rfl,Ck rfl];refine A6 (x:=(B.length:Int)) (by rw[EO ⟨A4,A4⟩];exact congrArg some A4) ?_;rw[Ck rfl];refine A6 i1 ?_;rw[Ck rfl];refine A6 i2 ?_;rw[Ck rfl];refine A6 v1 ?_;rw[Lt];refine Ad (λhv=>AU<| .inl ⟨rfl,λc=>?_⟩) λhv=>?_
   ·have:=v2.2 (c B y x C (by rw[hA];simp));have:=As hv;omega
   ·have:=Bg hv;exact A6 f<|nx<|GW<|v2.1 A4
 ·rw[CG,Ar];refine Aq (aa5 o A4) λr hr=>?_
  rcases hr with⟨e,h⟩|⟨e,h1,h2⟩|⟨e,h⟩
  ·rw[e];exact AU<| .inr ⟨hP,.inl ⟨rfl,h⟩⟩
  ·rw[e];exact AU<| .inr ⟨hP,.inr<| .inl ⟨rfl,h1,h2⟩⟩
  ·rw[e];have hd:decide ((r.1.length:Int)<(l.length:Int))=decide (r.1.length<l.length):=Ha.2 A4;rw[hd];show Yd _ (cond (decide<|r.1.length<l.length) (some (r.1,1))<|some (r.1,0));cases hq:decide (r.1.length<l.length)
   ·exact AU (.inr ⟨hP,.inr (.inr ⟨h,by dsimp;rw[hq];rfl⟩)⟩)
   ·exact AU (.inr ⟨hP,.inr (.inr ⟨h,by dsimp;rw[hq];rfl⟩)⟩)
def aie{n:Int}(h: -999999999<=n/\n<=999999999):Yd (λp=>F6 p n/\p.2.length<=1) (RX n):=by
 obtain⟨F,hF⟩:∃F,18446744073709551616=F+2:=⟨18446744073709551614,rfl⟩;unfold RX;rw[hF];show Yd _ (cond (!decide (n=0)) _ _);refine Ad (λhc=>?_) λhc=>?_
 ·have h0:n≠0:=by simpa using hc
  have rm:n.tmod 1000000000=n:=by
   rcases Int.le_total 0 n with g|g
   ·exact Int.tmod_eq_of_lt g A4
   ·have h2:=Int.tmod_eq_of_lt (a:= -n) (b:=1000000000) A4 A4;rw[Int.neg_tmod] at h2;omega
  have dv:n.tdiv 1000000000=0:=by have:=Int.mul_tdiv_add_tmod n 1000000000;rw[rm] at this;omega
  refine A6 (x:=n) (by show some (n.tmod 1000000000)=_;rw[rm]) ?_;refine DJ (λd=>d=(n.natAbs:Int)) ?_ λk7 h7=>Ad (λhc=>A6 BC (h7 _ (by have:=As hc;omega))) λhc=>h7 _ (by have:=Bg hc;omega)
  rintro d rfl;refine A6 (x:=[(n.natAbs:Int)]) (aam AV) (A6 (x:=0) (by show AH (n.tdiv 1000000000)=_;rw[dv];rfl) ?_);show Yd _ (bd (L4 (decide<|n<0) [(n.natAbs:Int)]) _);refine Aq (QJ (z:=n) (λx mx=>?_) AV ?_) λp hp=>AU hp
  ·rw[Cl.1 mx];exact⟨A4,by show _<(1000000000:Int);omega⟩
  ·have e:AL [(n.natAbs:Int)]=(n.natAbs:Int):=by show(n.natAbs:Int)+1000000000*0=_;omega
   rw[e];cases hn:decide (n<0)
   ·have:=Bg hn;simp[Ar];omega
   ·have:=As hn;simp[BH];omega
 ·have h0:n=0:=by simpa using hc
  subst h0;exact Aq (QJ (z:=0) (λx mx=>by cases mx) AV rfl) λp hp=>AU ⟨hp.1,Cu hp.2 AV⟩
theorem aiB(n:Int):BW (n:Rat)=Cd n:=by(simp_all [BW,Cd]<;>grind)
def mW{n:Int}(h:EY n=false):V7 n=some (BW (n:Rat)):=by
 let⟨p,e,h1,h2⟩:=aie<|My h
 unfold V7;rw[e,Cm,oj h1 A4,aiB];rfl
end
section
variable{h:Bc}(o:Bp h)
include o
theorem Tt:PA h=some (C1 (rh h).1):=by unfold PA PH;rw[mW o.x,Cm,mW o.y,Cm,mW o.z];rfl
theorem j5{p:Q3}{n:Nat}(hp:D6 n p)(hn:n<=5000):Y3 h (C1 p)=some (BW<|val (rh h) p)/\lv (3*n+44) (val (rh h) p):=by have l:=o.lvn (n:=9) A4;have d:=aP l hp;refine⟨?_,Fs (lvs d o.Jb) A4⟩;unfold Y3;rw[Tt o,Cm,jg l hp A4,Cm];have e:=Ue d o.Jb A4 A4;rw[<-o.txt] at e;rw[e];rfl
theorem qy{p:Q3}{n:Nat}(hp:D6 n p)(hn:n<=5000):VS h (C1 p)=some (val (rh h) p).num.sign:=by let⟨e,l⟩:=j5 o hp hn;unfold VS;rw[e,Cm,We l A4];rfl
end
section
variable{l:A3 Bc}{p:Q3}{M:A3 H3}{n:Nat}{α:Type}{x:α}{C:A3 Q3}{A:A3 α}{S:A3 CC}
def anT{x:Rat}(hx:lv n x)(h0:x≠0)(hn:n<=18000):RJ (BW x)=some (BW x⁻¹):=by have o:lv 1 (1:Rat):=Jm (d:=1) (.inl rfl) 1;refine GJ ?_;unfold RJ;refine Aq (Ru (N9 hx) A4 A4) ?_;rintro⟨q1,q2⟩ ⟨⟨b1,b2⟩,b3,b4⟩;dsimp only at*;have hf:=eC b2 b1 (λe=>h0<|Nd.1 e) A4 A4;rw[pf] at hf;exact A6 hf<|AU rfl
def zJ{x:Rat}(hx:lv n x)(hn:n<=18000):VE (BW x)=some (decide<|x=0):=by unfold VE;rw[YZ x<|aO hx hn]
theorem qX(a b c:Q3):AM a (Ag b c)=ER a b c:=by unfold ER AM Ag;grind
def ahg{a b c:Bc}(oa:Bp a)(ob:Bp b)(oc:Bp c):cg a b c=some (bif decide (ER (rh a).1 (rh b).1 (rh c).1=0) then(([],[],[]),false) else(C1<|Ip (rh a) (rh b)<|rh c,true)):=by
 have la:=oa.lvn (n:=9) A4;have lb:=ob.lvn (n:=9) A4;have lc:=oc.lvn (n:=9) A4;have bc':=PV lb lc;have ca':=PV lc la;have ab':=PV la lb;have ld:=aP la bc';unfold cg n5;rw[Tt oa,Cm,Tt ob,Cm,Tt oc,Cm,WV lb lc A4,Cm,jg la bc' A4,Cm,Cm,zJ ld A4,Cm,qX];rw[qX] at ld;cases hd:decide (ER (rh a).1 (rh b).1 (rh c).1=0)
 ·have s1:=WU bc' oa.Jb A4;have s2:=WU ca' ob.Jb A4;have s3:=WU ab' oc.Jb A4;rw[<-oa.txt] at s1;rw[<-ob.txt] at s2;rw[<-oc.txt] at s3;have t1:=SU bc' oa.Jb;have t2:=SU ca' ob.Jb;have t3:=SU ab' oc.Jb;have t4:=gw t1 t2;have t5:=gw t4 t3;have h0:=Bg hd;simp[Ar];rw[Cm,s1,Cm,WV lc la A4,Cm,s2,Cm,qz t1 t2 A4,Cm,WV la lb A4,Cm,s3,Cm,qz t4 t3 A4,Cm,anT ld h0 A4,Cm,WU t5 (lvi ld h0) A4]
  rfl
 ·rfl
def amg{a b c:Bc}(oa:Bp a)(ob:Bp b)(oc:Bp c)(h0:ER (rh a).1 (rh b).1 (rh c).1≠0):D6 500 (Ip (rh a) (rh b)<|rh c):=by
 have la:=oa.lvn (n:=9) A4;have lb:=ob.lvn (n:=9) A4;have lc:=oc.lvn (n:=9) A4;have ld:=aP la<|PV lb lc
 rw[qX] at ld;exact QR (SU (gw (gw (SU (PV lb lc) oa.Jb)<|SU (PV lc la) ob.Jb)<|SU (PV la lb) oc.Jb)<|lvi ld h0) A4
def yv(o:∀h∈l,Bp h)(hl:l.length<=100000000){d:Q3}(hd:D6 n d)(hn:n<=5000):Yd (λb=>b=true↔∃h∈l,0<AM (rh h).1 d) (VM l<|C1 d):=by
 unfold VM;refine C9 l (λ(_:Unit) i=>i) (λA _=>∀h∈A,¬0<AM (rh h).1 d) (λA x C s k hA hP next=>?_) (λs k hP=>?_) (s0:=()) AV A4
 ·rw[CD hA,BH];have ox:=o x<|at_mem hA
  have l9:=ox.lvn (n:=9) A4;refine A6 (Bk hA)<|A6 (Tt ox)<|A6 (jg l9 hd A4)<|A6 (We (aP l9 hd) A4) ?_
  rw[Yn];refine Ad (λhc=>AU ⟨λ_=>⟨x,at_mem hA,As hc⟩,λ_=>rfl⟩) λhc=>A6 (C4 hA A4)<|next () λh mh=>?_
  rcases Bs.1 mh with m|m
  ·exact hP h m
  ·rw[Cl.1 m];exact Bg hc
 ·rw[CG,Ar];exact AU ⟨λc=>(by cases c),λ⟨h,mh,c⟩=>absurd c<|hP h mh⟩
def ans:BW (-1)=[45,49]:=A7
def aqK(u v:Q3):BX (Ag u v) (-1)=Ag v u:=(Vf u v).symm
def afr(o:∀h∈l,Bp h)(hl:l.length<=50):Yd (λb=>b=true↔Ef (l.map rh)) (bz l):=by
 have bi:Ef (l.map rh)↔(∃f∈l,∃g∈l,Ag (rh f).1 (rh g).1≠o3)/\∀f∈l,∀g∈l,Ag (rh f).1 (rh g).1≠o3->∃h∈l,0<AM (rh h).1 (Ag (rh f).1 (rh g).1):=by
  rw[anf];have mm:∀{h:Bc},h∈l->rh h∈l.map rh:=λmh=>BR.2 ⟨_,mh,rfl⟩
  constructor
  ·rintro⟨⟨f,mf,g,mg,c⟩,h⟩;obtain⟨a,ma,rfl⟩:=BR.1 mf;obtain⟨b,mb,rfl⟩:=BR.1 mg;refine⟨⟨a,ma,b,mb,c⟩,λx mx y my c=>?_⟩;let⟨k,mk,c⟩:=h _ (mm mx) _ (mm my) c;obtain⟨z,mz,rfl⟩:=BR.1 mk;exact⟨z,mz,c⟩
  ·rintro⟨⟨f,mf,g,mg,c⟩,h⟩;refine⟨⟨_,mm mf,_,mm mg,c⟩,λx mx y my c=>?_⟩;obtain⟨a,ma,rfl⟩:=BR.1 mx;obtain⟨b,mb,rfl⟩:=BR.1 my;let⟨z,mz,c⟩:=h a ma b mb c;exact⟨_,mm mz,c⟩
 rw[show(λb:Bool=>b=true↔Ef (l.map rh))=λb:Bool=>b=true↔(∃f∈l,∃g∈l,Ag (rh f).1 (rh g).1≠o3)/\∀f∈l,∀g∈l,Ag (rh f).1 (rh g).1≠o3->∃h∈l,0<AM (rh h).1 (Ag (rh f).1 (rh g).1) from funext λb=>propext (by rw[bi])];unfold bz;refine C9 l (λ(s:Bool) i=>(s,i)) (λA s=>(s=true↔∃f∈A,∃g∈A,Ag (rh f).1 (rh g).1≠o3)/\∀f∈A,∀g∈A,Ag (rh f).1 (rh g).1≠o3->∃h∈l,0<AM (rh h).1 (Ag (rh f).1 (rh g).1)) (λA x C s k hA hP next=>?_) (λs k hP=>?_) (s0:=false) AV A4
 ·dsimp;rw[CD hA,BH];have al:=Cn hA;have mx:=at_mem hA;have mA:∀y∈A,y∈l:=λy my=>by rw[hA];exact Ij _ my
  refine C9 A (λ(t:Bool) i=>(t,i)) (λB t=>(t=true↔(∃f∈A,∃g∈A,Ag (rh f).1 (rh g).1≠o3)\/∃g∈B,Ag (rh x).1 (rh g).1≠o3)/\∀g∈B,Ag (rh x).1 (rh g).1≠o3->(∃h∈l,0<AM (rh h).1 (Ag (rh x).1 (rh g).1))/\∃h∈l,0<AM (rh h).1 (Ag (rh g).1 (rh x).1)) (λB y D t k2 hB hQ FE=>?_) (λt k2 hQ=>?_) (s0:=s) (by simpa using hP.1) A4
  ·dsimp;rw[CD hB,BH];have my:=mA y<|at_mem hB
   have hB':l=B++y::(D++x::C):=by rw[hA,hB];simp
   refine DJ (λt:Bool=>(t=true↔(∃f∈A,∃g∈A,Ag (rh f).1 (rh g).1≠o3)\/∃g∈B++[y],Ag (rh x).1 (rh g).1≠o3)/\∀g∈B++[y],Ag (rh x).1 (rh g).1≠o3->(∃h∈l,0<AM (rh h).1 (Ag (rh x).1 (rh g).1))/\∃h∈l,0<AM (rh h).1 (Ag (rh g).1 (rh x).1)) (λt ht=>A6 (C4 hB A4)<|FE t ht) λk8 h8=>?_
   have lx:=(o x mx).lvn (n:=9) A4;have ly:=(o y my).lvn (n:=9) A4;have lc:=PV lx ly;refine A6 (Bk hA)<|A6 (Tt<|o x mx)<|A6 (Bk hB')<|A6 (Tt<|o y my)<|A6 (WV lx ly A4)<|A6 (qx lc A4) ?_
   have sp:∀{P:Bc->Prop},(∀g∈B++[y],P g)↔(∀g∈B,P g)/\P y:=λ{P}=>by simp[or_imp,forall_and]
   have ex:∀{P:Bc->Prop},(∃g∈B++[y],P g)↔(∃g∈B,P g)\/P y:=λ{P}=>by simp[ZI,exists_or]
   rw[sp] at h8;rw[ex] at h8;refine Ad (λhc=>h8 _ ?_) λhc=>?_
   ·have:=As hc;exact⟨by rw[hQ.1];simp[this],hQ.2,λc=>absurd this c⟩
   ·have h0:=Bg hc;refine Aq (yv o A4 lc A4) λb hb=>?_
    cases b with
    |false=>
     show Yd _ (some false);refine AU ⟨λc=>(by cases c),λc=>?_⟩;have:=hb.2<|c.2 x mx y my h0
     cases this
    |true=>
     show Yd _ (bd (PC [45,49]<|C1<|Ag (rh x).1 (rh y).1) _);have l1:lv 1 (-1:Rat):=Jm (d:= -1) (.inr rfl) 1;have sc:=WU lc l1 A4;rw[ans,aqK] at sc;refine A6 sc ?_;show Yd _ (bd (VM l _) _);refine Aq (yv o A4 (PV ly lx) A4) λb' Ba=>?_
     cases b' with
     |false=>refine AU ⟨λc=>(by cases c),λc=>?_⟩;have:=Ba.2 (c.2 y my x mx λe=>h0 (by rw[Vf,e,sC]));cases this
     |true=>refine h8 true ⟨⟨λ_=> .inr<| .inr h0,λ_=>rfl⟩,hQ.2,λ_=>⟨hb.1 rfl,Ba.1 rfl⟩⟩
  ·dsimp;rw[CG,Ar];refine A6 (C4 hA A4)<|next t ⟨?_,?_⟩
   ·rw[hQ.1];constructor
    ·rintro(⟨f,mf,g,mg,c⟩|⟨g,mg,c⟩)
     ·exact⟨f,by simp[mf],g,by simp[mg],c⟩
     ·exact⟨x,AV,g,by simp[mg],c⟩
    ·rintro⟨f,mf,g,mg,c⟩;rcases Bs.1 mf with mf|mf<;>rcases Bs.1 mg with mg|mg
     ·exact .inl ⟨f,mf,g,mg,c⟩
     ·rw[Cl.1 mg] at c;exact .inr ⟨f,mf,λe=>c (by rw[Vf,e,sC])⟩
     ·rw[Cl.1 mf] at c;exact .inr ⟨g,mg,c⟩
     ·rw[Cl.1 mf,Cl.1 mg] at c;exact absurd UP c
   ·intro f mf g mg c;rcases Bs.1 mf with mf|mf<;>rcases Bs.1 mg with mg|mg
    ·exact hP.2 f mf g mg c
    ·rw[Cl.1 mg] at c⊢;exact(hQ.2 f mf λe=>c (by rw[Vf,e,sC])).2
    ·rw[Cl.1 mf] at c⊢;exact(hQ.2 g mg c).1
    ·rw[Cl.1 mf,Cl.1 mg] at c;exact absurd UP c
 ·dsimp;rw[CG,Ar];exact AU ⟨λc=>⟨hP.1.1 c,hP.2⟩,λc=>hP.1.2 c.1⟩
structure Srt(l r:A3 Bc):Prop where
 GW:r.Pairwise HN
 sub:∀h∈r,h∈l
 le:∀h∈l,∃k∈r,k.1=h.1/\rq k.2<=rq h.2
def Srt.least{r:A3 Bc}(s:Srt l r):Mb (l.map rh) (r.map rh):=by
 refine⟨λg mg=>?_,λg mg=>?_⟩
 ·obtain⟨h,mh,rfl⟩:=BR.1 mg;exact BR.2 ⟨h,s.sub h mh,rfl⟩
 ·obtain⟨h,mh,rfl⟩:=BR.1 mg;obtain⟨k,mk,e,c⟩:=s.le h mh;exact⟨rh k,BR.2 ⟨k,mk,rfl⟩,by show rn k.1=rn h.1;rw[e],c⟩
theorem aiL(o:∀h∈l,Bp h)(hl:l.length<=50):Yd (λr=>Srt l r/\r.length<=l.length) (dI l):=by
 unfold dI;refine C9 l (λ(s:A3 Bc) i=>(s,i)) (λA s=>Srt A s/\s.length<=A.length) (λA x C s k hA hP next=>?_) (λs k hP=>?_) (s0:=[]) ⟨⟨List.Pairwise.nil,AV,AV⟩,AV⟩ A4
 ·dsimp;rw[CD hA,BH];have al:=Cn hA;have mx:=at_mem hA;have ox:=o x mx;let⟨S,sl⟩:=hP;have os:∀h∈s,Bp h:=λh mh=>o h (by rw[hA];exact Ij _<|S.sub h mh)
  refine DJ (λs'=>Srt (A++[x]) s'/\s'.length<=(A++[x]).length) (λs' h'=>A6 (C4 hA A4)<|next s' h') λk5 h5=>?_
  have put:∀B D:A3 Bc,s=B++D->(∀h∈B,HN h x)->(∀h∈D,HN x h)->Srt (A++[x]) ((B++[x])++D)/\((B++[x])++D).length<=(A++[x]).length:=λB D e hb hd=>by
   have sa:=S.GW;rw[e] at sa;let⟨a1,a2,a3⟩:=LM.1 sa;refine⟨⟨LM.2 ⟨LM.2 ⟨a1,SJ _ _,λh mh y my=>by rw[Cl.1 my];exact hb h mh⟩,a2,λh mh y my=>?_⟩,λh mh=>?_,λh mh=>?_⟩,?_⟩
   ·rcases Bs.1 mh with m|m
    ·exact a3 h m y my
    ·rw[Cl.1 m];exact hd y my
   ·have:h∈s\/h=x:=by rw[e];simp at mh⊢;rcases mh with m|m|m<;>simp[m]
    rcases this with m|m
    ·exact Ij _<|S.sub h m
    ·rw[m];simp
   ·rcases Bs.1 mh with m|m
    ·let⟨k,mk,c⟩:=S.le h m;rw[e] at mk;exact⟨k,by simp at mk⊢;rcases mk with m|m<;>simp[m],c⟩
    ·rw[Cl.1 m];exact⟨x,AV,rfl,GY⟩
   ·rw[e] at sl;simp at sl⊢;omega
  refine C9 s (λ(_:Unit) i=>i) (λB _=>∀h∈B,HN h x) (λB h D t k7 hB hQ FE=>?_) (λt k7 hQ=>?_) (s0:=()) AV A4
  ·have hg:gd (decide<|(B.length:Int)<(s.length:Int)) true=true:=by rw[CD hB];rfl
   have bl:=Cn hB;have mh:=at_mem hB;rw[Ck hg];refine A6 (Bk hB) ?_;rw[Ck hg];refine A6 (Bk hB) ?_;rw[Ck hg];refine A6 (Bk hA) ?_;rw[Ck hg];refine A6 (nN h.1 x.1) ?_;rw[CD hB,Lt];refine Ad (λhc=>A6 (C4 hB A4)<|FE () λg mg=>?_) λhc=>?_
   ·rcases Bs.1 mg with m|m
    ·exact hQ g m
    ·rw[Cl.1 m];exact As hc
   ·have hnb:=Bg hc;rw[CD hB] at hg;rw[Ck hg];refine A6 (Bk hB) ?_;rw[Ck hg];refine A6 (Bk hB) ?_;rw[Ck hg];refine A6 (Bk hA) ?_;rw[Lt];refine Ad (λhe=>?_) λhe=>?_
    ·have he:=As he;have lx:=ox.Jb;have lh:=(os h mh).Jb;have cmp:eT x.2 h.2=some ((rh x).2-(rh h).2).num.sign:=by have e:=Ue lx lh A4 A4;rw[<-ox.txt,<-(os h mh).txt] at e;unfold eT;rw[e,Cm,We (lvs lx lh) A4];rfl
     refine A6 (Bk hA)<|A6 (Bk hB)<|A6 (Bk hB)<|A6 cmp ?_
     rw[sign_neg];refine DJ (λs'=>Srt (A++[x]) s'/\s'.length<=(A++[x]).length) (λs' h'=>h5 s' h') λk35 IX=>Ad (λhc=>?_) λhc=>?_
     ·refine A6 (Bk hA) (A6 (Bk hB)<|A6 (Bk hB) ?_);have hx:(h.1,x.2)=x:=by rw[he]
      have st:s.set ((B.length:Int)).toNat (h.1,x.2)=B++x::D:=by rw[hx,Ce,hB];simp
      rw[st];have hlt:rq x.2<rq h.2:=by have h9:=As hc;change rq x.2-rq h.2<0 at h9;grind
      have sa:=S.GW;rw[hB] at sa;let⟨a1,a2,a3⟩:=LM.1 sa;let⟨a4,a5⟩:=JK.1 a2;refine IX _ ⟨⟨LM.2 ⟨a1,JK.2 ⟨λy my=>?_,a5⟩,λy my z mz=>?_⟩,λy my=>?_,λy my=>?_⟩,?_⟩
      ·show Je x.1 y.1;rw[<-he];exact a4 y my
      ·rcases Ao.1 mz with e|m
       ·rw[e];show Je y.1 x.1;rw[<-he];exact a3 y my h AV
       ·exact a3 y my z<|C2 _ m
      ·have:y∈s\/y=x:=by rw[hB];simp at my⊢;rcases my with m|m|m<;>simp[m]
       rcases this with m|m
       ·exact Ij _<|S.sub y m
       ·rw[m];simp
      ·rcases Bs.1 my with m|m
       ·let⟨g,mg,c1,c2⟩:=S.le y m;rw[hB] at mg;rcases Bs.1 mg with mg|mg
        ·exact⟨g,by simp[mg],c1,c2⟩
        ·rcases Ao.1 mg with e|mg
         ·rw[e] at c1 c2;exact⟨x,AV,by rw[<-c1,he],ZJ (GZ hlt) c2⟩
         ·exact⟨g,by simp[mg],c1,c2⟩
       ·rw[Cl.1 m];exact⟨x,AV,rfl,GY⟩
      ·rw[hB] at sl;simp at sl⊢;omega
     ·have Ld:rq h.2<=rq x.2:=by have h9:=Bg hc;change¬rq x.2-rq h.2<0 at h9;grind
      refine IX _ ⟨⟨S.GW,λy my=>Ij _<|S.sub y my,λy my=>?_⟩,DC⟩;rcases Bs.1 my with m|m
      ·exact S.le y m
      ·rw[Cl.1 m];exact⟨h,mh,he,Ld⟩
    ·have hne:=Bg he;have hxh:HN x h:=((qb h.1 x.1).resolve_left hne).resolve_left hnb;have s1:C7 s 0 (B.length:Int)=some B:=by rw[E6 A4 A4 A4,hB];simp
     have s2:C7 s (B.length:Int) (s.length:Int)=some (h::D):=by rw[E6 A4 A4 A4];simp;rw[hB];simp
     have a0:∀(u v:A3 Bc),u.length+v.length<=100->BG 40 u v=some (u++v):=λu v huv=>by unfold BG;rw[B5 (show(u.length+v.length)*40<=140737488355328 by omega),B5 (show u.length+v.length<=9223372036854775807 by omega)];rfl
     have dl:s.length=B.length+(D.length+1):=by rw[hB];simp
     refine A6 s1<|A6 (a0 [] B DC)<|A6 (Bk hA)<|A6 (a0 _ _ DC)<|A6 s2<|A6 (a0 _ _ DC)<|h5 _ ?_
     rw[KC];refine put B (h::D) hB hQ λy my=>?_
     rcases Ao.1 my with e|m
     ·rw[e];exact hxh
     ·have sa:=S.GW;rw[hB] at sa;exact Wj hxh<|(JK.1 (LM.1 sa).2.1).1 y m
  ·have hg:gd (decide<|(s.length:Int)<(s.length:Int)) true=false:=by rw[CG];rfl
   rw[Ex hg,Ex hg,Ex hg,Ex hg];rw[CG,Qe,Ar];rw[CG] at hg;rw[Ex hg,Ex hg,Ex hg,Qe,Ar];have s1:C7 s 0 (s.length:Int)=some s:=by rw[E6 A4 A4 A4];simp
   have s2:C7 s (s.length:Int) (s.length:Int)=some []:=by rw[E6 A4 A4 A4];simp
   have a0:∀(u v:A3 Bc),u.length+v.length<=100->BG 40 u v=some (u++v):=λu v huv=>by unfold BG;rw[B5 (show(u.length+v.length)*40<=140737488355328 by omega),B5 (show u.length+v.length<=9223372036854775807 by omega)];rfl
   refine A6 s1<|A6 (a0 [] s DC)<|A6 (Bk hA)<|A6 (a0 _ _ DC)<|A6 s2<|A6 (a0 _ _ DC)<|h5 _ ?_
   rw[KC];exact put s [] AV hQ AV
 ·dsimp;rw[CG,Ar];exact AU hP
theorem ags(o:∀h∈l,Bp h)(hl:l.length<=100000000)(hp:D6 n p)(hn:n<=5000):Yd (λb=>b=true↔Mem (l.map rh) p) (cc l<|C1 p):=by
 have mm:∀{h:Bc},h∈l->rh h∈l.map rh:=λmh=>BR.2 ⟨_,mh,rfl⟩
 unfold cc;refine C9 l (λ(_:Unit) i=>i) (λA _=>∀h∈A,val (rh h) p<=0) (λA x C s k hA hP next=>?_) (λs k hP=>?_) (s0:=()) AV A4
 ·rw[CD hA,BH];refine A6 (Bk hA)<|A6 (qy (o x<|at_mem hA) hp hn) ?_
  rw[Yn];refine Ad (λhc=>AU ⟨λc=>(by cases c),λc=>?_⟩) λhc=>A6 (C4 hA A4)<|next () λh mh=>?_
  ·have:=c _ (mm<|at_mem hA);have:=As hc
   grind
  ·grind
 ·rw[CG,Ar];refine AU ⟨λ_ g mg=>?_,λ_=>rfl⟩;obtain⟨h,mh,rfl⟩:=BR.1 mg;exact hP h mh
theorem agm(hl:C.length<=100000000)(hC:∀q∈C,D6 n q)(hp:D6 n p)(hn:n<=5000):V4 (C.map C1) (C1 p)=some (decide<|p∈C):=by
 have key:Yd (λb=>b=decide (p∈C)) (V4 (C.map C1)<|C1 p):=by
  unfold V4;refine C9 (C.map C1) (λ(_:Unit) i=>i) (λA _=>C1 p∉A) (λA x D s k hA hP next=>?_) (λs k hP=>?_) (s0:=()) AV DC
  ·rw[CD hA,BH];refine A6 (Bk hA)<|Ad (λhc=>AU (B5 ?_).symm) λhc=>A6 (C4 hA DC)<|next () λc=>?_
   ·let⟨q,mq,e⟩:=BR.1 (at_mem hA);have e2:=As hc;have:q=p:=ap9 (hC q mq) hp A4 A4 (by rw[e,e2]);rw[<-this];exact mq
   ·grind
  ·rw[CG,Ar];exact AU (Bu λc=>hP<|BR.2 ⟨p,c,rfl⟩).symm
 obtain⟨r,e,rfl⟩:=key;exact e
theorem yH{l:A3 α}:l.Sublist (A++[x])↔l.Sublist A\/∃r,l=r++[x]/\r.Sublist A:=by
 rw[Zh];constructor
 ·grind
 ·rintro(h|⟨r,rfl,h⟩)
  ·exact⟨l,[],AV,h,AV⟩
  ·grind
theorem nr{a b c:α}:[c,b,a].Sublist (A++[x])↔[c,b,a].Sublist A\/(a=x/\[c,b].Sublist A):=by
 rw[yH];refine or_congr Iff.rfl ⟨?_,?_⟩
 ·rintro⟨r,e,h⟩;have e2:[c,b]++[a]=r++[x]:=e;let⟨e3,e4⟩:=ZT e2 rfl;cases e4;rw[<-e3] at h;exact⟨rfl,h⟩
 ·grind
def nt{b c:α}:[c,b].Sublist (A++[x])↔[c,b].Sublist A\/(b=x/\c∈A):=by
 rw[yH];refine or_congr Iff.rfl ⟨?_,?_⟩
 ·rintro⟨r,e,h⟩;have e2:[c]++[b]=r++[x]:=e;let⟨e3,e4⟩:=ZT e2 rfl;cases e4;rw[<-e3] at h;exact⟨rfl,List.singleton_sublist.1 h⟩
 ·rintro⟨rfl,h⟩;exact⟨[c],rfl,List.singleton_sublist.2 h⟩
def Met(a b c:Bc)(p:Q3):Prop:=ER (rh a).1 (rh b).1 (rh c).1≠0/\p=Ip (rh a) (rh b) (rh c)
def Tri(A:A3 Bc)(p:Q3):Prop:=∃a b c,[c,b,a].Sublist A/\Met a b c p
def Duo(x:Bc)(B:A3 Bc)(p:Q3):Prop:=∃b c,[c,b].Sublist B/\Met x b c p
def Uno(x y:Bc)(D:A3 Bc)(p:Q3):Prop:=∃c∈D,Met x y c p
def aja{A:A3 Bc}{x:Bc}:Tri (A++[x]) p↔Tri A p\/Duo x A p:=by
 constructor
 ·rintro⟨a,b,c,h,m⟩;rcases nr.1 h with h2|⟨e,h2⟩
  ·exact .inl ⟨a,b,c,h2,m⟩
  ·rw[e] at m;exact .inr ⟨b,c,h2,m⟩
 ·rintro(⟨a,b,c,h,m⟩|⟨b,c,h,m⟩)
  ·exact⟨a,b,c,nr.2<| .inl h,m⟩
  ·exact⟨x,b,c,nr.2<| .inr ⟨rfl,h⟩,m⟩
def alF{x:Bc}{B:A3 Bc}{y:Bc}:Duo x (B++[y]) p↔Duo x B p\/Uno x y B p:=by
 constructor
 ·rintro⟨b,c,h,m⟩;rcases nt.1 h with h2|⟨e,h2⟩
  ·exact .inl ⟨b,c,h2,m⟩
  ·rw[e] at m;exact .inr ⟨c,h2,m⟩
 ·rintro(⟨b,c,h,m⟩|⟨c,h,m⟩)
  ·exact⟨b,c,nt.2<| .inl h,m⟩
  ·exact⟨y,c,nt.2<| .inr ⟨rfl,h⟩,m⟩
def oW{x y:Bc}{D:A3 Bc}{z:Bc}:Uno x y (D++[z]) p↔Uno x y D p\/Met x y z p:=by unfold Uno;simp[Bs,ZI,exists_or]
def Crs(l:A3 Bc)(X:Q3->Prop)(out:A3 T3):Prop:=∃C:A3 Q3,out=C.map C1/\C.Nodup/\(∀p∈C,D6 500 p)/\C.length<=l.length*(l.length*l.length)/\∀p,p∈C↔Mem (l.map rh) p/\X p
theorem Crs.congr{X Y:Q3->Prop}{out:A3 T3}(h:Crs l X out)(e:∀p,X p↔Y p):Crs l Y out:=by grind [Crs]
theorem afu(o:∀h∈l,Bp h)(hl:l.length<=50):Yd (λr=>Crs l (Tri l) r) (bo l):=by
 have arz:l.length*(l.length*l.length)<=125000:=HK hl<|HK hl hl
 have inl:∀{A C:A3 Bc} {x:Bc},l=A++x::C->(∀y∈A,y∈l):=λh y my=>by rw[h];exact Ij _ my
 unfold bo;refine C9 l (λ(s:A3 T3) i=>(s,i)) (λA s=>Crs l (Tri A) s) (λA x C s k hA hP next=>?_) (λs k hP=>?_) (s0:=[]) ⟨[],rfl,List.nodup_nil,AV,AV,λp=>by simp[Tri]⟩ A4
 ·dsimp;rw[CD hA,BH];have al:=Cn hA;refine C9 A (λ(t:A3 T3) i=>(t,i)) (λB t=>Crs l (λp=>Tri A p\/Duo x B p) t) (λB y D t k2 hB hQ FE=>?_) (λt k2 hQ=>?_) (s0:=s) (hP.congr λp=>by simp[Duo]) A4
  ·dsimp;rw[CD hB,BH];have bl:=Cn hB;have hB':l=B++y::(D++x::C):=by rw[hA,hB];simp
   refine C9 B (λ(u:A3 T3) i=>(u,i)) (λE u=>Crs l (λp=>(Tri A p\/Duo x B p)\/Uno x y E p) u) (λE z F u k3 hE hR Ns=>?_) (λu k3 hR=>?_) (s0:=t) (hQ.congr λp=>by simp[Uno]) A4
   ·dsimp;rw[CD hE,BH];have el:=Cn hE;have hE':l=E++z::(F++y::(D++x::C)):=by rw[hB',hE];simp
    have ox:=o x<|at_mem hA
    have oy:=o y<|at_mem hB'
    have oz:=o z<|at_mem hE'
    refine DJ (λu'=>Crs l (λp=>(Tri A p\/Duo x B p)\/Uno x y (E++[z]) p) u') (λu' h'=>A6 (C4 hE A4)<|Ns u' h') λM8 Be=>?_
    refine A6 (Bk hA)<|A6 (Bk hB')<|A6 (Bk hE')<|A6 (ahg ox oy oz) ?_
    let⟨W,w1,w2,w3,w4,w5⟩:=hR;by_cases hd:ER (rh x).1 (rh y).1 (rh z).1=0
    ·rw[B5 hd,BH];refine Be u ⟨W,w1,w2,w3,w4,λp=>?_⟩;rw[w5];dsimp;rw[oW];have: ¬Met x y z p:=λm=>m.1 hd
     simp[this]
    ·rw[Bu hd,Ar];have lp:=amg ox oy oz hd;have hm:∀p,Met x y z p↔p=Ip (rh x) (rh y) (rh z):=λp=>⟨λm=>m.2,λe=>⟨hd,e⟩⟩
     have hv:Mem (l.map rh) (Ip (rh x) (rh y)<|rh z)->∀q,q∈W++[Ip (rh x) (rh y)<|rh z]↔Mem (l.map rh) q/\((Tri A q\/Duo x B q)\/Uno x y (E++[z]) q):=λhc q=>by
      rw[Bs,w5,oW,hm,Cl];constructor
      ·grind
      ·grind
     generalize Ip (rh x) (rh y) (rh z)=v at*
     refine Aq (ags o A4 lp A4) λb hb=>?_
     cases b with
     |false=>
      refine Be u ⟨W,w1,w2,w3,w4,λp=>?_⟩;rw[w5];dsimp;rw[oW,hm];constructor
      ·grind
      ·grind
     |true=>
      have hc:=hb.1 rfl;show Yd _ (bd (V4 u<|C1 v) _);rw[w1];refine A6 (agm A4 w3 lp A4) ?_;by_cases hw:v∈W
      ·rw[B5 hw];refine Be _ ⟨W,rfl,w2,w3,w4,λp=>?_⟩;have:=hv hc p;rw[<-this,Bs,Cl];exact⟨.inl,λh=>h.elim id λe=>by rw[e];exact hw⟩
      ·rw[Bu hw];show Yd _ (bd (BG 48 _ _) _);have nd:(W++[v]).Nodup:=AK;refine A6 (app_1 A4 (by rw[BY];omega))<|Be _ ⟨W++[v],AV,nd,λp mp=>?_,?_,hv hc⟩
       ·grind
       ·have e:l.length=(l.map rh).length:=(BY _).symm;rw[e];refine pM nd λp mp=>?_
        let⟨a,b⟩:=(hv hc p).1 mp;have met:∀{a b c:Bc},a∈l->b∈l->c∈l->Met a b c p->Bt (l.map rh) p:=λ{a' b' c'} ma mb mc m=>Yk.2 ⟨a,_,BR.2 ⟨_,ma,rfl⟩,_,BR.2 ⟨_,mb,rfl⟩,_,BR.2 ⟨_,mc,rfl⟩,m.1,m.2⟩
        rcases b with(⟨a',b',c',s,m⟩|⟨b',c',s,m⟩)|⟨c',mc,m⟩
        ·exact met (inl hA _<|s.subset AV) (inl hA _<|s.subset AV) (inl hA _<|s.subset AV) m
        ·exact met (at_mem hA) (inl hB' _<|s.subset AV) (inl hB' _<|s.subset AV) m
        ·grind
   ·dsimp;rw[CG,Ar];exact A6 (C4 hB A4) (FE u (hR.congr λp=>by rw[alF,or_assoc]))
  ·dsimp;rw[CG,Ar];exact A6 (C4 hA A4) (next t (hQ.congr λp=>by rw[aja]))
 ·dsimp;rw[CG,Ar];exact AU hP
def alY:Mem (l.map rh) p/\Tri l p↔Bt (l.map rh) p:=by
 rw[ai4];refine and_congr Iff.rfl ⟨?_,?_⟩
 ·rintro⟨a,b,c,s,m⟩;exact⟨rh a,rh b,rh c,s.map rh,m.1,m.2⟩
 ·rintro⟨a,b,c,s,m⟩;let⟨r,hr,e⟩:=List.sublist_map_iff.1 s
  match r,e with
  |[c',b',a'],e=>simp[MO,ZM,List.cons.injEq,and_true] at e;obtain⟨rfl,rfl,rfl⟩:=e;exact⟨a',b',c',hr,m⟩
def ak0(hC:∀p∈C,D6 500 p)(hl:C.length<=100000000):Yd (λr=>(r<3/\∃m:Q3,m≠o3/\∃c,∀p∈C,AM m p=c)\/(r=3/\∃a∈C,∃b∈C,∃c∈C,∃d∈C,ER (BD b a) (BD c a) (BD d a)≠0)) (di<|C.map C1):=by
 unfold di;rw[BY];cases C with
 |nil=>exact AU<| .inl ⟨Lg,_,Z2,0,AV⟩
 |cons a T=>
  rw[Bu (show¬((a::T).length:Int)=0 by simp;omega),Ar];refine jA (a::T) (λ(s:T3×T3×Int) i=>(s.1,s.2.1,s.2.2,i)) (λA s=>∃u n:Q3,IH a (a::T) A u n s.2.2/\(s.2.2=1->s.1=C1 u/\D6 1001 u)/\(s.2.2=2->s.2.1=C1 n/\D6 4005 n)) (λA p D s k hA hP next=>?_) (λs k hP=>?_) [a] T (s0:=(([],[],[]),([],[],[]),0)) rfl ⟨o3,o3,.inl ⟨rfl,AV⟩,λh=>by simp at h,λh=>by simp at h⟩ A4
  ·dsimp only;rw[CD hA,BH];have mp:=at_mem hA;have lp:=hC p mp;have la:=hC a DT;have ld:=aa7 lp la;let⟨u,n,h,h1,h2⟩:=hP;refine DJ (λs':T3×T3×Int=>∃u n:Q3,IH a (a::T) (A++[p]) u n s'.2.2/\(s'.2.2=1->s'.1=C1 u/\D6 1001 u)/\(s'.2.2=2->s'.2.1=C1 n/\D6 4005 n)) (λs' h'=>A6 (C4 hA A4)<|next s' h') λk6 h6=>?_
   have ix:AB ((a::T).map C1) (A.length:Int)=some (C1 p):=by have:=Bk hA;rw[JT] at this⊢;rw[H9,this];rfl
   refine A6 ix<|A6 (x:=C1 a) rfl<|A6 (abT lp la A4) ?_
   have aty:s.2.2=0\/s.2.2=1\/s.2.2=2:=by rcases h with⟨e,_⟩|⟨e,_⟩|⟨e,_⟩<;>simp[e]
   let⟨s1,s2,dim⟩:=s;dsimp only at*;rcases aty with rfl|rfl|rfl
   ·rw[show gd (decide<|(0:Int)=0) true=true from rfl,Ck rfl];refine A6 (qx ld A4) ?_;by_cases e:BD p a=o3
    ·rw[B5 e];exact h6 (s1,s2,0) ⟨u,n,h.s0 e,λh=>by simp at h,λh=>by simp at h⟩
    ·rw[Bu e];exact h6 (C1<|BD p a,s2,1) ⟨_,n,h.s01 mp e,λ_=>⟨rfl,QR ld A4⟩,λh=>by simp at h⟩
   ·let⟨e1,l1⟩:=h1 rfl;subst e1;have lc:=PV l1 ld;show Yd _ (bd (NP (C1 u)<|C1<|BD p a) _);refine A6 (WV l1 ld A4) ?_;rw[show gd (decide<|(1:Int)=1) true=true from rfl,Ck rfl];refine A6 (qx lc A4) ?_;by_cases e:Ag u (BD p a)=o3
    ·rw[B5 e];exact h6 (C1 u,s2,1) ⟨u,n,h.s1 e,λ_=>⟨rfl,l1⟩,λh=>by simp at h⟩
    ·rw[Bu e];show Yd _ (bd (NP (C1 u)<|C1<|BD p a) _);exact A6 (WV l1 ld A4) (h6 (C1 u,C1<|Ag u<|BD p a,2) ⟨u,_,h.EF mp e,λh=>by simp at h,λ_=>⟨rfl,QR lc A4⟩⟩)
   ·let⟨e1,l1⟩:=h2 rfl;subst e1;show Yd _ (bd (Rg (C1 n)<|C1<|BD p a) _);refine A6 (jg l1 ld A4) ?_;rw[show gd (decide<|(2:Int)=2) true=true from rfl,Ck rfl];refine A6 (zJ (aP l1 ld) A4) ?_;by_cases e:AM n (BD p a)=0
    ·rw[B5 e];exact h6 (s1,C1 n,2) ⟨u,n,h.s2 e,λh=>by simp at h,λ_=>⟨rfl,l1⟩⟩
    ·rw[Bu e];let⟨b,mb,c,mc,hd⟩:=h.s3 e;exact AU<| .inr ⟨rfl,a,DT,b,mb,c,mc,p,mp,hd⟩
  ·dsimp only;rw[CG,Ar];let⟨u,n,h,_⟩:=hP;let⟨m,m0,hm⟩:=h.flat;refine AU<| .inl ⟨?_,m,m0,_,hm⟩
   rcases h with⟨e,_⟩|⟨e,_⟩|⟨e,_⟩<;>rw[e]<;>decide
def H4(C:A3 Q3)(h:H3):Nat:=(C.filter λp=>decide<|val h p=0).length
structure KY(hs:A3 Bc)(p:Q3)(o:A3 Int):Prop where
 nd:o.Nodup
 iff:∀j:Int,j∈o↔∃(m:Nat) (h:Bc),j=(m:Int)/\hs[m]? =some h/\val (rh h) p=0
def KY.len{hs:A3 Bc}{o:A3 Int}(h:KY hs p o):o.length<=hs.length:=by
 have:=Mq (l:=o) (T:=(List.range hs.length).map λm:Nat=>(m:Int)) h.nd λj mj=>by let⟨m,x,e,hx,_⟩:=(h.iff j).1 mj;exact BR.2 ⟨m,Qg.2 (FP.1 hx).1,e.symm⟩
 simpa using this
theorem KY.at{hs:A3 Bc}{o:A3 Int}(h:KY hs p o){m:Nat}{x:Bc}(hx:hs[m]? =some x):(m:Int)∈o↔val (rh x) p=0:=by
 rw[h.iff];constructor
 ·grind
 ·grind
theorem afj(o:∀h∈l,Bp h)(hl:l.length<=50)(hp:D6 500 p):Yd (λr=>KY l p r) (cW l<|C1 p):=by
 unfold cW;refine C9 l (λ(s:A3 Int) i=>(s,i)) (λA s=>KY A p s) (λA x C s k hA hP next=>?_) (λs k hP=>?_) (s0:=[]) ⟨List.nodup_nil,λj=>by simp⟩ A4
 ·dsimp;rw[CD hA,BH];have al:=Cn hA;have sl:=hP.len;have Fe:∀j:Int,(∃(m:Nat) (h:Bc),j=(m:Int)/\(A++[x])[m]? =some h/\val (rh h) p=0)↔j∈s\/(j=(A.length:Int)/\val (rh x) p=0):=λj=>by
   rw[hP.iff];constructor
   ·rintro⟨m,h,e,hm,t⟩;by_cases hlt:m<A.length
    ·grind
    ·grind
   ·rintro(⟨m,h,e,hm,t⟩|⟨e,t⟩)
    ·grind
    ·exact⟨A.length,x,e,AV,t⟩
  refine DJ (λs':A3 Int=>KY (A++[x]) p s') (λs' h'=>A6 (C4 hA A4)<|next s' h') λk5 h5=>?_
  refine A6 (Bk hA)<|A6 (qy (o x<|at_mem hA) hp A4) ?_
  rw[sign_zero];refine Ad (λhc=>A6 (app_1 A4 A4)<|h5 _ ⟨?_,λj=>?_⟩) λhc=>h5 _ ⟨hP.nd,λj=>?_⟩
  ·rw[UB];refine⟨hP.nd,AV,λa ma b mb e=>?_⟩;let⟨m,h,e1,hm,_⟩:=(hP.iff a).1 ma;rw[Cl.1 mb] at e;have:=(FP.1 hm).1;omega
  ·grind
  ·grind
 ·dsimp;rw[CG,Ar];exact AU hP
theorem xU{a b:A3 Int}(hb:b.Nodup)(ha:a.length<=100)(hbl:b.length<=100):Xo a b=some (a.filter λx=>decide<|x∈b):=by
 refine GJ ?_;unfold Xo;refine C9 a (λ(s:A3 Int) i=>(s,i)) (λA s=>s=A.filter λx=>decide<|x∈b) (λA x C s k hA hP next=>?_) (λs k hP=>?_) (s0:=[]) rfl A4
 ·dsimp;rw[CD hA,BH];have al:=Cn hA;have sl:s.length<=A.length:=AK;refine C9 b (λ(t:A3 Int) i=>(t,i)) (λB t=>t=s++(bif decide (x∈B) then [x] else [])) (λB y D t k2 hB hQ FE=>?_) (λt k2 hQ=>?_) (s0:=s) AV A4
  ·dsimp;rw[CD hB,BH];refine DJ (λt':A3 Int=>t'=s++(bif decide (x∈B++[y]) then [x] else [])) (λt' h'=>A6 (C4 hB A4)<|FE t' h') λk8 h8=>?_
   refine A6 (Bk hA)<|A6 (Bk hB)<|Ad (λhc=>?_) λhc=>h8 _ ?_
   ·have e:=As hc;have hnb:x∉B:=λmx=>by rw[hB,UB] at hb;exact hb.2.2 x mx y DT e
    have t0:t=s:=by rw[hQ];simp[hnb]
    refine A6 (Bk hA) (A6 (app_1 A4 (by rw[t0];omega))<|h8 _ ?_);rw[t0,B5 (show x∈B++[y] by simp[e])];rfl
   ·grind
  ·dsimp;rw[CG,Ar];refine A6 (C4 hA A4)<|next t ?_
   rw[hQ,hP,WL];cases hd:decide (x∈b)<;>simp[hd]
 ·dsimp;rw[CG,Ar];exact AU hP
abbrev ZL:=A3<|Q3×A3 Int
theorem ajL(o:∀h∈l,Bp h)(hl:l.length<=50)(hC:∀p∈C,D6 500 p)(hn:C.length<=1000000):Yd (λr=>r.1=(l.filter λh=>decide<|3<=H4 C (rh h))/\r.2.1=C.map C1/\∃Z:ZL,Z.map (·.1)=C/\r.2.2=Z.map (·.2)/\∀z∈Z,KY r.1 z.1 z.2) (dm l<|C.map C1):=by
 have cm:(C.map C1).length=C.length:=BY _;unfold dm;refine C9 l (λ(s:A3 Bc×A3 T3×A3 (A3 Int)) i=>(s,i)) (λA s=>s.1=(A.filter λh=>decide<|3<=H4 C (rh h))/\s.2.2=[]) (λA x D s k hA hP next=>?_) (λs k hP=>?_) (s0:=([],[],[])) ⟨rfl,rfl⟩ A4
 ·dsimp;rw[CD hA,BH];have al:=Cn hA;have ox:=o x<|at_mem hA
  refine DJ (λs':A3 Bc×A3 T3×A3 (A3 Int)=>s'.1=((A++[x]).filter λh=>decide<|3<=H4 C (rh h))/\s'.2.2=[]) (λs' h'=>A6 (C4 hA A4)<|next s' h') λk5 h5=>?_
  refine C9 C (λ(t:Int) i=>(t,i)) (λB t=>t=(H4 B (rh x):Int)) (λB p E t k7 hB hQ FE=>?_) (λt k7 hQ=>?_) (s0:=0) rfl A4
  ·dsimp;rw[cm,CD hB,BH];have bl:=Cn hB;have ix:AB (C.map C1) (B.length:Int)=some (C1 p):=by have:=Bk hB;rw[JT] at this⊢;rw[H9,this];rfl
   have cb:H4 B (rh x)<=B.length:=List.length_filter_le _ _;refine DJ (λt':Int=>t'=(H4 (B++[p]) (rh x):Int)) (λt' h'=>A6 (C4 hB A4)<|FE t' h') λHw BK=>?_
   have ca:H4 (B++[p]) (rh x)=H4 B (rh x)+bif decide (val (rh x) p=0) then 1 else 0:=by unfold H4;rw[WL,Dg];cases hd:decide (val (rh x) p=0)<;>simp[hd]
   refine A6 (Bk hA)<|A6 ix<|A6 (qy ox (hC p<|at_mem hB) A4) ?_
   rw[sign_zero];refine Ad (λhc=>A6 BC (BK _ (by rw[ca,hc,hQ];simp))) λhc=>BK _ (by rw[ca,hc,hQ];simp)
  ·dsimp;rw[cm,CG,Ar];have e:decide (3<=t)=decide (3<=H4 C (rh x)):=Ha.2 A4;rw[e];have fl:s.1.length<=A.length:=AK;refine Ad (λhc=>A6 (Bk hA)<|A6 (app_1 A4 A4)<|h5 _ ⟨?_,hP.2⟩) λhc=>h5 _ ⟨?_,hP.2⟩
   ·grind
   ·grind
 ·dsimp;rw[CG,Ar];have os:∀h∈s.1,Bp h:=λh mh=>o h (by rw[hP.1] at mh;exact(JJ.1 mh).1)
  have sl:s.1.length<=l.length:=AK;refine C9 C (λ(t:A3 (A3 Int)) i=>((s.1,C.map C1,t),i)) (λB t=>∃Z:ZL,Z.map (·.1)=B/\t=Z.map (·.2)/\∀z∈Z,KY s.1 z.1 z.2) (λB p E t k7 hB hQ FE=>?_) (λt k7 hQ=>?_) (s0:=s.2.2) ⟨[],rfl,by rw[hP.2];rfl,AV⟩ A4
  ·dsimp;rw[cm,CD hB,BH];have bl:=Cn hB;have ix:AB (C.map C1) (B.length:Int)=some (C1 p):=by have:=Bk hB;rw[JT] at this⊢;rw[H9,this];rfl
   let⟨Z,z1,z2,z3⟩:=hQ;have tl:t.length=B.length:=AK;refine A6 ix (Aq (afj os A4<|hC p<|at_mem hB) λr hr=>A6 (app_1 A4 A4) (A6 (C4 hB A4) (FE _ ⟨Z++[(p,r)],by simp[z1],by simp[z2],λz mz=>?_⟩)));rcases Bs.1 mz with m|m
   ·exact z3 z m
   ·grind
  ·dsimp;rw[cm,CG,Ar];exact AU ⟨hP.1,rfl,hQ⟩
structure Rel(K:Bc->Prop)(l A:A3 Bc)(T:A3 Int)(hv:A3 Bc):Prop where
 len:T.length=l.length
 GW:hv.Pairwise HN
 mem:∀h,h∈hv↔h∈A/\K h
 at_:∀(j:Nat) (x:Bc),A[j]? =some x->∃t:Int,T[j]? =some t/\((¬K x/\t= -1)\/(K x/\∃m:Nat,t=(m:Int)/\hv[m]? =some x))
def fT{hv:A3 Bc}(h:hv.Pairwise HN):hv.Nodup:=List.Pairwise.imp (λ{a b} (k:HN a b) (e:a=b)=>WZ b.1 (by rw[e] at k;exact k)) h
theorem oE{l:A3 α}(h:l.Nodup){i j:Nat}(hi:l[i]? =some x)(hj:l[j]? =some x):i=j:=by
 let⟨b1,e1⟩:=FP.1 hi;let⟨b2,e2⟩:=FP.1 hj;have p:=Zj.1 h;rcases Nat.lt_trichotomy i j with c|c|c
 ·grind
 ·exact c
 ·grind
def Yz(u v:A3 Bc)(h:u.length+v.length<=1000):BG 40 u v=some (u++v):=by unfold BG;rw[B5 (show(u.length+v.length)*40<=140737488355328 by omega),B5 (show u.length+v.length<=9223372036854775807 by omega)];rfl
def jL{l:A3 α}{i:Nat}(h:i<l.length):AB l (i:Int)=some l[i]:=by rw[JT];exact Gj h
def ac8(l:A3 Bc)(Z:ZL)(cs:A3 T3)(r:A3 Bc×A3 T3×A3 (A3 Int)):Prop:=r.1.Pairwise HN/\(∀h,h∈r.1↔h∈l/\3<=H4 (Z.map (·.1)) (rh h))/\r.2.1=cs/\∃Z':ZL,Z'.map (·.1)=Z.map (·.1)/\r.2.2=Z'.map (·.2)/\∀z∈Z',KY r.1 z.1 z.2
theorem an9(hl:l.length<=60)(IU:l.Nodup){Z:ZL}(hZ:Z.length<=1000000000)(HE:∀z∈Z,KY l z.1 z.2){cs:A3 T3}
 (hd:∀x∈l,∀y∈l,3<=H4 (Z.map (·.1)) (rh x)->3<=H4 (Z.map (·.1)) (rh y)->x.1=y.1->x=y):Yd (ac8 l Z cs) (eE l cs<|Z.map (·.2)):=by
 have zm:(Z.map (·.2)).length=Z.length:=BY _;have zl:∀z∈Z,z.2.length<=60:=λz mz=>Cu (HE z mz).len hl
 unfold eE;refine A6 (x:=List.replicate l.length 0) (by rw[Px A4 A4 A4];simp) ?_;refine C9 l (λ(s:A3 Int×A3 Bc) i=>(s.1,s.2,i)) (λA s=>Rel (λx=>3<=H4 (Z.map (·.1)) (rh x)) l A s.1 s.2) (λA x C s k hA hP next=>?_) (λs k hP=>?_) (s0:=(List.replicate l.length 0,[])) ⟨AV,List.Pairwise.nil,AV,AV⟩ A4
 ·dsimp only;rw[CD hA,BH];have al:=Cn hA;have mx:=at_mem hA;have lx:l[A.length]? =some x:=by rw[hA];simp
  have hxA:x∉A:=λc=>by rw[hA,UB] at IU;exact IU.2.2 x c x DT rfl
  obtain⟨t9,hv⟩:=s;dsimp only at hP⊢;have Lc:hv.length<=A.length:=Mq (fT hP.GW) λh mh=>((hP.mem h).1 mh).1
  refine DJ (λs':A3 Int×A3 Bc=>Rel (λx=>3<=H4 (Z.map (·.1)) (rh x)) l (A++[x]) s'.1 s'.2) (λs' h'=>A6 (C4 hA A4)<|next s' h') λk7 h7=>?_
  refine C9 Z (λ(t:Int) i=>(t,i)) (λB t=>t=(H4 (B.map (·.1)) (rh x):Int)) (λB z E t k9 hB hQ FE=>?_) (λt k9 hQ=>?_) (s0:=0) rfl A4
  ·dsimp;rw[zm,CD hB,BH];have bl:=Cn hB;have mz:=at_mem hB;have ix:AB (Z.map (·.2)) (B.length:Int)=some z.2:=by have:=Bk hB;rw[JT] at this⊢;rw[H9,this];rfl
   have cb:H4 (B.map (·.1)) (rh x)<=B.length:=by
    have:=List.length_filter_le (λp=>decide<|val (rh x) p=0)<|B.map (·.1)
    rw[BY] at this;exact this
   refine DJ (λt':Int=>t'=(H4 ((B++[z]).map (·.1)) (rh x):Int)) (λt' h'=>A6 (C4 hB A4)<|FE t' h') λJV Bz=>?_
   have ca:H4 ((B++[z]).map (·.1)) (rh x)=H4 (B.map (·.1)) (rh x)+bif decide (val (rh x) z.1=0) then 1 else 0:=by unfold H4;rw[G9,WL,Dg];cases hd:decide (val (rh x) z.1=0)<;>simp[hd]
   refine A6 ix (A6 (xU (b:=[(A.length:Int)]) AV (by have:=zl z mz;omega) AV) ?_);have hlen:decide ((0:Int)<((z.2.filter λx=>decide<|x∈[(A.length:Int)]).length:Int))=decide (val (rh x) z.1=0):=by
    rw[Ha,<-(HE z mz).at lx];constructor
    ·intro h;obtain⟨y,my⟩:=List.exists_mem_of_length_pos (show 0<(z.2.filter λx=>decide<|x∈[(A.length:Int)]).length by omega);obtain⟨m1,m2⟩:=JJ.1 my;have:y=(A.length:Int):=by simpa using m2
     rw[<-this];exact m1
    ·intro h;have:=List.length_pos_of_mem (JJ.2 ⟨h,AV⟩:(A.length:Int)∈z.2.filter λx=>decide<|x∈[(A.length:Int)]);omega
   rw[hlen];refine Ad (λhc=>A6 BC (Bz _ (by rw[ca,hc,hQ];simp))) λhc=>Bz _ (by rw[ca,hc,hQ];simp)
  ·dsimp only;rw[zm,CG,Ar];have hi:A.length<t9.length:=by rw[hP.len];omega
   refine A6 (jL hi)<|A6 (jL hi) ?_
   have setAt:∀(v:Int) (j:Nat),j≠A.length->(t9.set A.length v)[j]? =t9[j]? :=λv j hj=>by rw[qN<|Ne.symm hj]
   refine Ad (λhc=>h7 _ ?_) λhc=>?_
   ·have hk: ¬3<=H4 (Z.map (·.1)) (rh x):=by have:=As hc;omega
    rw[Ce];refine⟨by simp[hP.len],hP.GW,λh=>?_,λj y hj=>?_⟩
    ·rw[hP.mem,Bs,Cl];constructor
     ·rintro⟨a,b⟩;exact⟨.inl a,b⟩
     ·rintro⟨a|a,b⟩
      ·exact⟨a,b⟩
      ·rw[a] at b;exact absurd b hk
    ·by_cases hj2:j<A.length
     ·rw[MX hj2] at hj;rw[setAt _ _ A4];exact hP.at_ j y hj
     ·grind
   ·have hk:3<=H4 (Z.map (·.1)) (rh x):=by have:=Bg hc;omega
    have fin:∀B D:A3 Bc,hv=B++D->(∀h∈B,HN h x)->(∀h∈D,HN x h)->Yd (ac8 l Z cs)
      (B7 (λNJ (CE:A3 Int×Int)=>cond (decide<|CE.2<(A.length:Int)) (jn (λ(s43:(A3 Int))=>bd (AH<|CE.2+1) λKs=>NJ (s43,Ks)) λk44=>bd (AB CE.1 CE.2) λLY=>bd (AB CE.1 CE.2) λKp=>cond (decide<|(B.length:Int)<=Kp) (bd (AB CE.1 CE.2) λHx=>bd (AB CE.1 CE.2) λGd=>bd (AH<|Gd+1) λHy=>bd (AB CE.1 CE.2) λJw=>bd (AB CE.1 CE.2) λJW=>k44 (CE.1.set (CE.2).toNat Hy)) (k44 CE.1)) (bd (AB CE.1 (A.length:Int)) λIQ=>bd (AB CE.1 (A.length:Int)) λMi=>bd (C7 hv 0 (B.length:Int)) λx66=>bd (BG 40 ([]:A3 ((Int×Int×Int)×AD)) x66) λx68=>bd (AB l (A.length:Int)) λx70=>bd (BG 40 x68 ([x70]:A3 ((Int×Int×Int)×AD))) λx72=>bd (C7 hv (B.length:Int) (hv.length:Int)) λJX=>bd (BG 40 x72 JX) λx76=>k7 ((CE.1.set ((A.length:Int)).toNat (B.length:Int)),x76))) ((t9.set ((A.length:Int)).toNat<| -1),0)):=λB D e hb hdd=>by
     rw[Ce];have bl:B.length<=hv.length:=by rw[e];simp
     have dl:hv.length=B.length+D.length:=by rw[e];simp
     refine C9 A (λ(T:A3 Int) i=>(T,i)) (λG T=>T.length=l.length/\∀j:Nat,T[j]? =(if j<G.length then((t9.set A.length<| -1)[j]?).map (λt=>bif decide ((B.length:Int)<=t) then t+1 else t) else(t9.set A.length<| -1)[j]?)) (λG y E T NJ hG hT Ns=>?_) (λT NJ hT=>?_) (s0:=t9.set A.length<| -1) ⟨by simp[hP.len],λj=>by simp⟩ A4
     ·dsimp only;rw[CD hG,BH];have gl:=Cn hG;have yA:A[G.length]? =some y:=by rw[hG];simp
      obtain⟨t,t1,t2⟩:=hP.at_ _ _ yA;have T0:T[G.length]? =some t:=by rw[hT.2,if_neg A4,setAt _ _ A4,t1]
      have tb: -1<=t/\t<=1000:=by
       rcases t2 with⟨_,e⟩|⟨_,m,e,hm⟩
       ·omega
       ·have:=(FP.1 hm).1;omega
      have iT:AB T (G.length:Int)=some t:=by rw[JT];exact T0
      have gT:G.length<T.length:=(FP.1 T0).1;refine DJ (λT':A3 Int=>T'.length=l.length/\∀j:Nat,T'[j]? =(if j<(G++[y]).length then((t9.set A.length<| -1)[j]?).map (λt=>bif decide ((B.length:Int)<=t) then t+1 else t) else(t9.set A.length<| -1)[j]?)) (λT' h'=>A6 (C4 hG A4)<|Ns T' h') λk44 IW=>?_
      have z0:(t9.set A.length<| -1)[G.length]? =some t:=by rw[setAt _ _ A4,t1]
      refine A6 iT (A6 iT (Ad (λhc=>A6 iT (A6 iT (A6 BC (A6 iT (A6 iT (IW _ ⟨by simp[hT.1],λj=>?_⟩)))))) λhc=>IW _ ⟨hT.1,λj=>?_⟩))
      ·rw[Ce];by_cases hj:j=G.length
       ·subst hj;rw[WQ gT,if_pos AV,z0];simp[Pf,hc,BH]
       ·grind
      ·by_cases hj:j=G.length
       ·subst hj;rw[T0,if_pos AV,z0];simp[Pf,hc,Ar]
       ·rw[hT.2];have:(j<G.length)=(j<(G++[y]).length):=propext DC;simp[this]
     ·dsimp;rw[CG,Ar];have iT:A.length<T.length:=by rw[hT.1];omega
      have s1:C7 hv 0 (B.length:Int)=some B:=by rw[E6 A4 A4 A4,e];simp
      have s2:C7 hv (B.length:Int) (hv.length:Int)=some D:=by rw[E6 A4 A4 A4];simp;rw[e];simp
      refine A6 (jL iT)<|A6 (jL iT)<|A6 s1<|A6 (Yz [] B DC)<|A6 (Bk hA)<|A6 (Yz _ _ DC)<|A6 s2<|A6 (Yz _ _ DC)<|h7 _ ?_
      rw[KC];have sa:=hP.GW;rw[e] at sa;obtain⟨a1,a2,a3⟩:=LM.1 sa;refine⟨by simp[hT.1],LM.2 ⟨LM.2 ⟨a1,SJ _ _,λh mh y my=>by rw[Cl.1 my];exact hb h mh⟩,a2,λh mh y my=>?_⟩,λh=>?_,λj y hj=>?_⟩
      ·rcases Bs.1 mh with m|m
       ·exact a3 h m y my
       ·rw[Cl.1 m];exact hdd y my
      ·have hm:=hP.mem h;rw[e,Bs] at hm;simp only[Bs,Cl];constructor
       ·grind
       ·grind
      ·
       by_cases hj2:j<A.length
       ·rw[MX hj2] at hj;obtain⟨t,t1,t2⟩:=hP.at_ j y hj;rw[qN A4,hT.2,if_pos hj2,setAt _ _ A4,t1];refine⟨_,rfl,?_⟩;rcases t2 with⟨n,e2⟩|⟨n,m,e2,hm⟩
        ·left;refine⟨n,?_⟩;rw[e2];dsimp;rw[decide_eq_false A4];rfl
        ·right;refine⟨n,?_⟩;rw[e] at hm;by_cases hbm:B.length<=m
         ·refine⟨m+1,by rw[e2];dsimp;rw[decide_eq_true A4];rfl,?_⟩;rw[N4 hbm] at hm;rw[N4 (by simp<;>omega)];have:m+1-(B++[x]).length=m-B.length:=AV;rw[this];exact hm
         ·grind
       ·have:j=A.length:=by have:=(FP.1 hj).1;simp at this;omega
        subst this;simp at hj;refine⟨(B.length:Int),by rw[WQ iT],.inr ⟨by rw[<-hj];exact hk,B.length,rfl,?_⟩⟩;rw[Hm,N4<|BM _];simp[hj]
    refine C9 hv (λ(_:Unit) i=>i) (λB _=>∀h∈B,HN h x) (λB h D t Kq hB hQ2 Ns=>?_) (λt Kq hQ2=>?_) (s0:=()) AV A4
    ·have hg:gd (decide<|(B.length:Int)<(hv.length:Int)) true=true:=by rw[CD hB];rfl
     have bl:=Cn hB;have mh:=at_mem hB;rw[Ck hg];refine A6 (Bk hB) ?_;rw[Ck hg];refine A6 (Bk hB) ?_;rw[Ck hg];refine A6 (Bk hA) ?_;rw[Ck hg];refine A6 (nN h.1 x.1) ?_;rw[CD hB,Lt];refine Ad (λhc=>A6 (C4 hB A4)<|Ns () λg mg=>?_) λhc=>fin B (h::D) hB hQ2 λy my=>?_
     ·rcases Bs.1 mg with m|m
      ·exact hQ2 g m
      ·rw[Cl.1 m];exact As hc
     ·have hnb:=Bg hc;obtain⟨hA',hK⟩:=(hP.mem h).1 mh;have hne:h.1≠x.1:=λe=>hxA (by rw[<-hd h (by rw[hA];exact Ij _ hA') x mx hK hk e];exact hA')
      have hxh:HN x h:=((qb h.1 x.1).resolve_left hne).resolve_left hnb;rcases Ao.1 my with e|m
      ·rw[e];exact hxh
      ·have sa:=hP.GW;rw[hB] at sa;exact Wj hxh<|(JK.1 (LM.1 sa).2.1).1 y m
    ·have hg:gd (decide<|(hv.length:Int)<(hv.length:Int)) true=false:=by rw[CG];rfl
     rw[Ex hg,Ex hg,Ex hg,Ex hg];rw[CG,Qe,Ar];exact fin hv [] AV hQ2 AV
 ·dsimp;rw[CG,Ar];obtain⟨t9,hv⟩:=s;dsimp only at hP⊢;have hvn:=fT hP.GW;have look:∀(j:Nat) (x:Bc),l[j]? =some x->∃t:Int,AB t9 (j:Int)=some t/\((¬3<=H4 (Z.map (·.1)) (rh x)/\t= -1)\/(3<=H4 (Z.map (·.1)) (rh x)/\∃m:Nat,t=(m:Int)/\hv[m]? =some x)):=λj x hj=>by obtain⟨t,t1,t2⟩:=hP.at_ j x hj;exact⟨t,by rw[JT];exact t1,t2⟩
  refine C9 Z (λ(t:A3 (A3 Int)) i=>((hv,cs,t),i)) (λB t=>∃Z':ZL,Z'.map (·.1)=B.map (·.1)/\t=Z'.map (·.2)/\∀z∈Z',KY hv z.1 z.2) (λB z E t k81 hB hQ FE=>?_) (λt k81 hQ=>?_) (s0:=[]) ⟨[],rfl,rfl,AV⟩ A4
  ·dsimp;rw[zm,CD hB,BH];have bl:=Cn hB;have mz:=at_mem hB;have oz:=HE z mz;have ix:AB (Z.map (·.2)) (B.length:Int)=some z.2:=by have:=Bk hB;rw[JT] at this⊢;rw[H9,this];rfl
   obtain⟨Z',z1,z2,z3⟩:=hQ;have tl:t.length=B.length:=by rw[z2,BY,<-BY (f:=λz:Q3×A3 Int=>z.1),z1,BY]
   have zz:=zl z mz;refine C9 z.2 (λ(u:A3 Int) i=>(u,i)) (λG u=>u.length<=G.length/\u.Nodup/\∀j':Int,j'∈u↔∃(j m:Nat) (x:Bc),(j:Int)∈G/\l[j]? =some x/\j'=(m:Int)/\hv[m]? =some x) (λG j E u k84 hG hU Ns=>?_) (λu k84 hU=>?_) (s0:=[]) ⟨AV,List.nodup_nil,AV⟩ A4
   ·dsimp;refine A6 ix ?_;rw[CD hG,BH];have gl:=Cn hG;obtain⟨n,x,e,hx,tx⟩:=(oz.iff j).1<|at_mem hG
    subst e;obtain⟨tv,tv1,tv2⟩:=look n x hx;refine DJ (λu':A3 Int=>u'.length<=(G++[(n:Int)]).length/\u'.Nodup/\∀j':Int,j'∈u'↔∃(j m:Nat) (x:Bc),(j:Int)∈G++[(n:Int)]/\l[j]? =some x/\j'=(m:Int)/\hv[m]? =some x) (λu' h'=>A6 (C4 hG A4)<|Ns u' h') λk89 h89=>?_
    refine A6 ix<|A6 (Bk hG)<|A6 tv1<|A6 tv1 ?_
    have split:∀j':Int,(∃(j m:Nat) (x:Bc),(j:Int)∈G++[(n:Int)]/\l[j]? =some x/\j'=(m:Int)/\hv[m]? =some x)↔j'∈u\/∃m:Nat,j'=(m:Int)/\hv[m]? =some x:=λj'=>by
     rw[hU.2.2];constructor
     ·rintro⟨j,m,y,mj,hy,e,hm⟩;rcases Bs.1 mj with mj|mj
      ·exact .inl ⟨j,m,y,mj,hy,e,hm⟩
      ·have:j=n:=by have:=Cl.1 mj;omega
       rw[this,hx] at hy;cases hy;exact .inr ⟨m,e,hm⟩
     ·rintro(⟨j,m,y,mj,hy,e,hm⟩|⟨m,e,hm⟩)
      ·exact⟨j,m,y,Ij _ mj,hy,e,hm⟩
      ·exact⟨n,m,x,AV,hx,e,hm⟩
    rcases tv2 with⟨hk,e⟩|⟨hk,m,e,hm⟩
    ·rw[e,show decide ((0:Int)<= -1)=false from rfl,Ar];refine h89 _ ⟨DC,hU.2.1,λj'=>?_⟩;rw[split];refine⟨.inl,λh=>h.elim id λ⟨m,_,hm⟩=>?_⟩;exact absurd ((hP.mem x).1<|LO hm).2 hk
    ·rw[e,decide_eq_true (show(0:Int)<=(m:Int) by omega),BH];rw[e] at tv1;refine A6 ix<|A6 (Bk hG)<|A6 tv1<|A6 tv1<|A6 (app_1 A4 A4)<|h89 _ ⟨DC,?_,λj'=>?_⟩
     ·rw[UB];refine⟨hU.2.1,AV,λa ma b mb e2=>?_⟩;rw[Cl.1 mb] at e2;obtain⟨j,m',y,mj,hy,e3,KV⟩:=(hU.2.2 a).1 ma;have:m'=m:=A4;rw[this,hm] at KV;cases KV;have hjn:j=n:=oE IU hy hx;have hnG:(n:Int)∉G:=λc=>by have:=oz.nd;rw[hG,UB] at this;exact this.2.2 _ c _ DT rfl
      rw[hjn] at mj;exact hnG mj
     ·rw[Bs,Cl,split];refine or_congr Iff.rfl ⟨λh=>⟨m,h,hm⟩,λ⟨m',h,KV⟩=>?_⟩;have:m'=m:=oE hvn KV hm;rw[h,this]
   ·dsimp;refine A6 ix ?_;rw[CG,Ar];refine A6 (app_1 A4 A4) (A6 (C4 hB A4) (FE _ ⟨Z'++[(z.1,u)],by simp[z1],by simp[z2],λy my=>?_⟩));rcases Bs.1 my with m|m
    ·exact z3 y m
    ·rw[Cl.1 m];refine⟨hU.2.1,λj'=>?_⟩;rw[hU.2.2];constructor
     ·rintro⟨j,m,x,mj,hx,e,hm⟩;exact⟨m,x,e,hm,(oz.at hx).1 mj⟩
     ·rintro⟨m,x,e,hm,tx⟩;obtain⟨ml,_⟩:=(hP.mem x).1<|LO hm
      obtain⟨j,hj⟩:=Zf.1 ml;exact⟨j,m,x,(oz.at hj).2 tx,hj,e,hm⟩
  ·dsimp;rw[zm,CG,Ar];exact AU ⟨hP.GW,hP.mem,rfl,hQ⟩
abbrev H6:=A3 Bc×A3 T3×A3 (A3 Int)
structure RS(s:H6)(M:A3 H3)(Z:ZL):Prop where
 ok:∀h∈s.1,Bp h
 GW:s.1.Pairwise HN
 fac:∀k,k∈s.1.map rh↔k∈M/\3<=H4 (Z.map (·.1)) k
 cor:s.2.1=Z.map (λz=>C1 z.1)
 on:s.2.2=Z.map (·.2)
 nd:(Z.map (·.1)).Nodup
 mem:∀p,p∈Z.map (·.1)↔Bt M p
 HE:∀z∈Z,KY s.1 z.1 z.2
def Mb.refl(M:A3 H3):Mb M M:=⟨λ_ h=>h,λh mh=>⟨h,mh,rfl,GY⟩⟩
def RS.O6{s:H6}{Z:ZL}(R:RS s M Z)(I:CJ S M)(k:H3):k∈s.1.map rh↔k∈S.map (·.1):=by rw[R.fac,YQ I (Mb.refl M) R.mem R.nd];rfl
def RS.FT{s:H6}{Z:ZL}(R:RS s M Z){z:Q3×A3 Int}(mz:z∈Z):Bt M z.1:=(R.mem z.1).1<|BR.2 ⟨z,mz,rfl⟩
def RS.len{s:H6}{Z:ZL}(R:RS s M Z):s.1.length<=M.length:=by
 have nb:(s.1.map rh).Nodup:=Nj.2 (UJ (λ{x y} mx my h e=>by rw[Pm (R.ok x mx) (R.ok y my) e] at h;exact WZ _ h) R.GW)
 have:=Mq nb λx mx=>((R.fac x).1 mx).1
 rwa [BY] at this
def RS.arW{s:H6}{Z:ZL}(R:RS s M Z)(h:M.length<=31):Z.length<=29791:=by
 have:=pM R.nd λp mp=>(R.mem p).1 mp
 rw[BY] at this;have:=HK h<|HK h h
 omega
theorem vq(o:∀h∈l,Bp h)(hl:l.length<=50):Yd (λr=>(r.2=13/\ ¬Ef (l.map rh))\/(r.2=12/\Ef (l.map rh)/\ ¬HM (l.map rh))\/(r.2=0/\Ef (l.map rh)/\HM (l.map rh)/\r.1.1.Pairwise HN/\(∀S,CJ S (l.map rh)->∀h,h∈r.1.1↔h∈l/\rh h∈S.map (·.1))/\∃Z,RS r.1 (l.map rh) Z)) (VP l):=by
 unfold VP;refine Aq (afr o hl) λb hb=>Ad (λhc=>AU<| .inl ⟨rfl,λc=>?_⟩) λhc=>?_
 ·grind
 have hB:Ef (l.map rh):=hb.1 (by simpa using hc);refine Aq (aiL o hl) λs ⟨S,sl⟩=>?_
 have os:∀h∈s,Bp h:=λh mh=>o h<|S.sub h mh
 have L:=S.least;refine Aq (afu os A4) λr hr=>?_
 let⟨C,c1,c2,c3,c4,c5⟩:=hr;have arz:s.length*(s.length*s.length)<=125000:=HK (show s.length<=50 by omega) (HK (show s.length<=50 by omega) (show s.length<=50 by omega));have cv:∀p,p∈C↔Bt (s.map rh) p:=λp=>by rw[c5,alY]
 rw[c1];refine Aq (ak0 c3 A4) λd hd=>?_
 rcases hd with⟨d3,m,m0,c,hm⟩|⟨rfl,a,ma,b,mb,c,mc,d,md,atz⟩
 ·rw[B5 d3,BH];exact AU<| .inr<| .inl ⟨rfl,hB,agS hB m0 λp hp=>hm p<|(cv p).2<|(L.FT p).2 hp⟩
 ·rw[show decide ((3:Int)<3)=false from rfl,Ar];have mem:∀{p},p∈C->Mem (l.map rh) p:=λmp=>((L.FT _).1<|(cv _).1 mp).1
  have hi:HM (l.map rh):=al4 (λk mk=>(Bp.Om o k mk).nz) (mem ma) (mem mb) (mem mc) (mem md) atz;let⟨w,_,hw⟩:=aa5 o hl;have I:CJ w.1 (l.map rh):=AK;refine Aq (ajL os A4 c3 A4) λD ⟨d1,d2,Z,z1,z2,z3⟩=>?_
  have R:RS D (l.map rh) Z:=by
   refine⟨λh mh=>?_,?_,λk=>?_,?_,z2,by rw[z1];exact c2,λp=>by rw[z1,cv,L.FT],z3⟩
   ·grind
   ·rw[d1];exact S.GW.filter _
   ·rw[z1,d1,<-show _↔k∈l.map rh/\3<=H4 C k from YQ I (Mb.refl _) (λp=>by rw[cv,L.FT]) c2 k,YQ I L cv c2];constructor
    ·intro mk;let⟨x,mx,e⟩:=BR.1 mk;let⟨m1,m2⟩:=JJ.1 mx;rw[<-e];exact⟨BR.2 ⟨x,m1,rfl⟩,As m2⟩
    ·rintro⟨mk,h3⟩;let⟨x,mx,e⟩:=BR.1 mk;rw[<-e] at h3⊢;exact BR.2 ⟨x,JJ.2 ⟨mx,B5 h3⟩,rfl⟩
   ·rw[d2,<-z1,U6];rfl
  refine AU<| .inr<| .inr ⟨rfl,hB,hi,R.GW,λF hF h=>⟨λmh=>?_,λ⟨mh,mf⟩=>?_⟩,Z,R⟩
  ·have mr:rh h∈D.1.map rh:=BR.2 ⟨h,mh,rfl⟩;let⟨g,mg,e⟩:=BR.1 ((R.fac<|rh h).1 mr).1;rw[<-Pm (o g mg) (R.ok h mh) e];exact⟨mg,by rw[e];exact(R.O6 hF _).1 mr⟩
  ·let⟨g,mg,e⟩:=BR.1 ((R.O6 hF _).2 mf);rw[<-Pm (R.ok g mg) (o h mh) e];exact mg
def anR{h:H3}(I:CJ S M)(hM:Iw 14 (h::M))(hlen:M.length<=60)(hp:∀g∈h::M,Hu g.1)(hi:HM (h::M)):∃S',CJ S' (h::M):=by
 obtain⟨r,_,⟨_,hr⟩|⟨_,hr⟩⟩:=Yd.nK I hM A4 hlen (hp h DT).nz λa ma b mb=>Tg (hp a ma)<|hp b mb
 ·exact⟨_,hr⟩
 ·exact absurd hi hr
def alA{S':A3 CC}{h:H3}(I:CJ S M)(I':CJ S' (h::M)){f:CC}(mf:f∈S')(hm:f.1∈M):f.1∈S.map (·.1):=by let⟨z,mz,tz,hc⟩:=abV I' mf;let⟨o,ho⟩:=I.int;let⟨g,mg,tg⟩:=I.cover z (λk mk=>mz k<|C2 _ mk) ⟨f.1,hm,tz⟩;have g1:=(I.EZ g mg).1;have:=ql ho I.nz I.norm hm g1 (hc g.1 (C2 _ g1) tg) tz tg;exact BR.2 ⟨g,mg,this.symm⟩
end
section
variable(n:Int)(k:H3)(Z:ZL)
def Ja(a b:A3 Int):A3 Int:=a.filter λx=>decide<|x∈b
def KH(z w:Q3×A3 Int):ZL:=bif decide (val k z.1<0)&&decide (0<val k w.1)&&decide (2<=(Ja z.2 w.2).length) then [(Fj k z.1 w.1,Ja z.2 w.2++[n])] else []
def M5(z:Q3×A3 Int):ZL:=(bif decide (val k z.1<0) then [z] else [])++(bif decide (val k z.1=0) then [(z.1,z.2++[n])] else [])
def KG(z:Q3×A3 Int):ZL:=M5 n k z++Z.flatMap (KH n k z)
end
def SM{α β:Type}{f:α->A3 β}{w:Nat}:∀{l:A3 α},(∀x∈l,(f x).length<=w)->(l.flatMap f).length<=l.length*w
 |[],_=>by simp
 |x::l,h=>by
  have:=SM (l:=l) λy my=>h y<|C2 _ my
  have:=h x DT;rw[Pg,Dg,E7,SC];omega
def yn(n:Int)(k:H3)(z:Q3×A3 Int):(M5 n k z).length<=2:=by unfold M5;cases decide (val k z.1<0)<;>cases decide (val k z.1=0)<;>simp
def yo(n:Int)(k:H3)(z w:Q3×A3 Int):(KH n k z w).length<=1:=by unfold KH;cases decide (val k z.1<0)&&decide (0<val k w.1)&&decide (2<=(Ja z.2 w.2).length)<;>simp
def yl(n:Int)(k:H3)(Z:ZL)(z:Q3×A3 Int):(KG n k Z z).length<=2+Z.length:=by
 unfold KG;rw[Dg];have:=yn n k z;have:=SM (l:=Z) (f:=KH n k z) (w:=1) λw _=>yo n k z w
 omega
def Z4{a b:A3 Int}{x:Int}:x∈Ja a b↔x∈a/\x∈b:=by unfold Ja;simp
section
variable{s:H6}{M:List H3}{Z:ZL}{S:List CC}{h:Bc}
variable{y:Q3×A3 Int}{n:Int}{z:Q3×A3 Int}
def ac9(S:A3 CC)(k:H3)(z w:Q3):Prop:=val k z<0/\0<val k w/\∃f∈S,∃g∈S,f.1≠g.1/\val f.1 z=0/\val f.1 w=0/\val g.1 z=0/\val g.1 w=0
theorem gH(R:RS s M Z)(I:CJ S M){w:Q3×A3 Int}(mz:z∈Z)(mw:w∈Z)(my:y∈KH n (rh h) z w):y=(Fj (rh h) z.1 w.1,Ja z.2 w.2++[n])/\ac9 S (rh h) z.1 w.1:=by
 unfold KH at my;cases hd:decide (val (rh h) z.1<0)&&decide (0<val (rh h) w.1)&&decide (2<=(Ja z.2 w.2).length) with
 |false=>rw[hd] at my;cases my
 |true=>
  rw[hd] at my;rw[C6,C6,Hn,Hn,Hn] at hd;let⟨⟨h0,h1⟩,h2⟩:=hd;have nd:(Ja z.2 w.2).Nodup:=(R.HE z mz).nd.sublist List.filter_sublist;refine⟨Cl.1 my,h0,h1,?_⟩
  match e:Ja z.2 w.2,h2,nd with
  |i::j::r,_,nd=>
   have mi:i∈Ja z.2 w.2:=by rw[e];simp
   have mj:j∈Ja z.2 w.2:=by rw[e];simp
   have KW:i≠j:=λc=>by rw[c] at nd;simp at nd
   let⟨i1,i2⟩:=Z4.1 mi;let⟨j1,j2⟩:=Z4.1 mj;obtain⟨a,x,rfl,hx,tx⟩:=((R.HE z mz).iff i).1 i1;obtain⟨b,y',rfl,hy,ty⟩:=((R.HE z mz).iff j).1 j1;have tx':=((R.HE w mw).at hx).1 i2;have KL:=((R.HE w mw).at hy).1 j2;let⟨f,mf,ef⟩:=BR.1<|(R.O6 I<|rh x).1<|BR.2 ⟨x,LO hx,rfl⟩
   let⟨g,mg,eg⟩:=BR.1<|(R.O6 I<|rh y').1<|BR.2 ⟨y',LO hy,rfl⟩
   refine⟨f,mf,g,mg,λc=>?_,by rw[ef];exact tx,by rw[ef];exact tx',by rw[eg];exact ty,by rw[eg];exact KL⟩;rw[ef,eg] at c;have:=Pm (R.ok x<|LO hx) (R.ok y'<|LO hy) c;rw[this] at hx;have:=oE (fT R.GW) hx hy;exact KW A4
theorem ym{k:H3}(my:y∈M5 n k z):(y=z/\val k z.1<0)\/(y=(z.1,z.2++[n])/\val k z.1=0):=by
 unfold M5 at my;rw[Bs] at my;rcases my with my|my
 ·grind
 ·grind
theorem Yt(R:RS s M Z)(I:CJ S M)(mz:z∈Z)(my:y∈KG n (rh h) Z z):(y=z/\val (rh h) z.1<0)\/(y=(z.1,z.2++[n])/\val (rh h) z.1=0)\/∃w∈Z,y=(Fj (rh h) z.1 w.1,Ja z.2 w.2++[n])/\ac9 S (rh h) z.1 w.1:=by
 unfold KG at my;rw[Bs] at my;rcases my with my|my
 ·rcases ym my with c|c
  ·exact .inl c
  ·grind
 ·let⟨w,mw,my⟩:=Lx.1 my;exact .inr<| .inr ⟨w,mw,gH R I mz mw my⟩
theorem ahP(R:RS s M Z)(I:CJ S M)(n:Int):((Z.flatMap<|KG n (rh h) Z).map (·.1)).Nodup:=by
 have zp:Z.Pairwise λa b=>a.1≠b.1:=Nj.1 R.nd
 refine Nj.2<|qQ.2 ⟨λz mz=>?_,?_⟩
 ·unfold KG;rw[LM];refine⟨?_,qQ.2 ⟨λw mw=>?_,?_⟩,λx mx y my=>?_⟩
  ·unfold M5;by_cases c:val (rh h) z.1=0
   ·grind
   ·rw[Bu c];cases decide (val (rh h) z.1<0)<;>simp
  ·unfold KH;cases decide (val (rh h) z.1<0)&&decide (0<val (rh h) w.1)&&decide (2<=(Ja z.2 w.2).length)<;>simp
  ·refine UJ (λ{a b} ma mb ne x mx y my e=>?_) zp;let⟨ex,x0,x1,f,mf,g,mg,hne,a1,a2,a3,a4⟩:=gH R I mz ma mx;let⟨ey,y0,y1,_⟩:=gH R I mz mb my;rw[ex,ey] at e;exact ne (zK I (R.FT mz) (R.FT ma) (R.FT mz) (R.FT mb) x0 x1 y0 y1 mf mg hne a1 a2 a3 a4 e).2
  ·let⟨w,mw,my⟩:=Lx.1 my;let⟨ey,y0,y1,_⟩:=gH R I mz mw my;have ex:x.1=z.1:=by rcases ym mx with⟨e,_⟩|⟨e,_⟩<;>rw[e]
   rw[ex,ey];exact λe=>qa (R.FT mz) (R.FT mw) (R.FT mz) y0 y1 e.symm
 ·refine UJ (λ{a b} ma mb ne x mx y my e=>?_) zp;have Fe:∀{z y:Q3×A3 Int},(y=z/\val (rh h) z.1<0)\/(y=(z.1,z.2++[n])/\val (rh h) z.1=0)->y.1=z.1:=λ{z y} c=>by rcases c with⟨e,_⟩|⟨e,_⟩<;>rw[e]
  rcases or_assoc.2 (Yt R I ma mx) with cx|⟨w,mw,ex,x0,x1,f,mf,g,mg,hne,a1,a2,a3,a4⟩
  ·rcases or_assoc.2 (Yt R I mb my) with cy|⟨v,mv,ey,y0,y1,_⟩
   ·grind
   ·rw[Fe cx,ey] at e;exact qa (R.FT mb) (R.FT mv) (R.FT ma) y0 y1 e.symm
  ·rcases or_assoc.2 (Yt R I mb my) with cy|⟨v,mv,ey,y0,y1,_⟩
   ·rw[Fe cy,ex] at e;exact qa (R.FT ma) (R.FT mw) (R.FT mb) x0 x1 e
   ·rw[ex,ey] at e;exact ne (zK I (R.FT ma) (R.FT mw) (R.FT mb) (R.FT mv) x0 x1 y0 y1 mf mg hne a1 a2 a3 a4 e).1
theorem ake(R:RS s M Z)(I:CJ S M)(hz:(rh h).1≠o3)(p:Q3):p∈(Z.flatMap<|KG (s.1.length:Int) (rh h) Z).map (·.1)↔Bt (rh h::M) p:=by
 constructor
 ·intro mp;obtain⟨y,my,rfl⟩:=BR.1 mp;let⟨z,mz,my⟩:=Lx.1 my;rcases Yt R I mz my with⟨e,hv⟩|⟨e,hv⟩|⟨w,mw,e,h0,h1,f,mf,g,mg,hne,a1,a2,a3,a4⟩
  ·rw[e];exact fU (R.FT (z:=z) mz)<|GZ hv
  ·rw[e];show Bt _ z.1;exact fU (R.FT (z:=z) mz) (by rw[hv];exact GY)
  ·rw[e];show Bt _ (Fj (rh h) z.1 w.1);exact(alE I (R.FT mz) (R.FT mw) h0 h1 mf mg hne a1 a2 a3 a4).1
 ·intro hp;have Fe:∀z∈Z,val (rh h) z.1<=0->z.1∈(Z.flatMap<|KG (s.1.length:Int) (rh h) Z).map (·.1):=λz mz hv=>by
   by_cases h0:val (rh h) z.1=0
   ·refine BR.2 ⟨(z.1,z.2++[(s.1.length:Int)]),Lx.2 ⟨z,mz,?_⟩,rfl⟩;unfold KG M5;rw[B5 h0];simp
   ·refine BR.2 ⟨z,Lx.2 ⟨z,mz,?_⟩,rfl⟩;unfold KG M5;rw[B5 (show val (rh h) z.1<0 by grind)];simp
  rcases ahj I hp with hv|⟨u,v,hu,hv,h0,h1,e,f,mf,g,mg,hne,a1,a2,a3,a4⟩
  ·obtain⟨z,mz,rfl⟩:=BR.1 ((R.mem p).2 hv);exact Fe z mz<|hp.1 _ DT
  ·obtain⟨z,mz,rfl⟩:=BR.1 ((R.mem u).2 hu);obtain⟨w,mw,rfl⟩:=BR.1<|(R.mem v).2 hv
   refine BR.2 ⟨(Fj (rh h) z.1 w.1,Ja z.2 w.2++[(s.1.length:Int)]),Lx.2 ⟨z,mz,?_⟩,e.symm⟩;have two:2<=(Ja z.2 w.2).length:=by
    let⟨x,mx,ex⟩:=BR.1<|(R.O6 I f.1).2<|BR.2 ⟨f,mf,rfl⟩
    let⟨y,my,ey⟩:=BR.1<|(R.O6 I g.1).2<|BR.2 ⟨g,mg,rfl⟩
    let⟨a,ha⟩:=Zf.1 mx;let⟨b,hb⟩:=Zf.1 my;rw[<-ex] at a1 a2;rw[<-ey] at a3 a4;have m1:(a:Int)∈Ja z.2 w.2:=Z4.2 ⟨((R.HE z mz).at ha).2 a1,((R.HE w mw).at ha).2 a2⟩;have m2:(b:Int)∈Ja z.2 w.2:=Z4.2 ⟨((R.HE z mz).at hb).2 a3,((R.HE w mw).at hb).2 a4⟩;have J8:a≠b:=λc=>hne (by rw[<-ex,<-ey];rw[c,hb] at ha;cases ha;rfl)
    have:=Mq (l:=[(a:Int),(b:Int)]) (T:=Ja z.2 w.2) DC (by
     intro x mx;rcases Ao.1 mx with e|mx
     ·rw[e];exact m1
     ·rw[Cl.1 mx];exact m2)
    exact this
   unfold KG;refine UI _<|Lx.2 ⟨w,mw,?_⟩
   unfold KH;rw[B5 h0,B5 h1,B5 two];simp
theorem akd(R:RS s M Z)(I:CJ S M)(hm:∀x∈s.1,rh x∈M)(my:y∈Z.flatMap (KG (s.1.length:Int) (rh h) Z)):KY (s.1++[h]) y.1 y.2:=by
 have up:∀{p:Q3} {o:A3 Int},KY s.1 p o->∀j:Int,(∃(m:Nat) (x:Bc),j=(m:Int)/\(s.1++[h])[m]? =some x/\val (rh x) p=0)↔j∈o\/(j=(s.1.length:Int)/\val (rh h) p=0):=λ{p o} ho j=>by
  rw[ho.iff];constructor
  ·grind
  ·rintro(⟨m,x,e,hx,t⟩|⟨e,t⟩)
   ·grind
   ·exact⟨s.1.length,h,e,AV,t⟩
 have fresh:∀{p:Q3} {o:A3 Int},KY s.1 p o->(s.1.length:Int)∉o:=λ{p o} ho c=>by let⟨m,x,e,hx,_⟩:=(ho.iff _).1 c;have:=(FP.1 hx).1;omega
 have put:∀{p:Q3} {o:A3 Int},KY s.1 p o->val (rh h) p=0->KY (s.1++[h]) p (o++[(s.1.length:Int)]):=λ{p o} ho t=>by
  refine⟨?_,λj=>?_⟩
  ·rw[UB];refine⟨ho.nd,AV,λa ma b mb e=>fresh ho ?_⟩;rw[Cl.1 mb] at e;rw[<-e];exact ma
  ·grind
 let⟨z,mz,my⟩:=Lx.1 my;rcases Yt R I mz my with⟨e,hv⟩|⟨e,hv⟩|⟨w,mw,e,h0,h1,f,mf,g,mg,hne,a1,a2,a3,a4⟩
 ·rw[e];refine⟨(R.HE z mz).nd,λj=>?_⟩;rw[up<|R.HE z mz];refine⟨.inl,λc=>c.elim id λ⟨_,t⟩=>?_⟩;rw[t] at hv;exact absurd hv AK
 ·rw[e];exact put (R.HE z mz) hv
 ·rw[e];have ho:GK (val (rh h) z.1) (val (rh h) w.1)=true:=Ka.2<| .inl ⟨h0,h1⟩
  refine put ⟨(R.HE z mz).nd.sublist List.filter_sublist,λj=>?_⟩<|Z1 ho
  rw[Z4];constructor
  ·rintro⟨j1,j2⟩;let⟨m,x,e,hx,t⟩:=((R.HE z mz).iff j).1 j1;rw[e] at j2;exact⟨m,x,e,hx,(Rq (R.FT mz).1 (R.FT mw).1 ho<|hm x<|LO hx).2 ⟨t,((R.HE w mw).at hx).1 j2⟩⟩
  ·rintro⟨m,x,e,hx,t⟩;let⟨t1,t2⟩:=(Rq (R.FT mz).1 (R.FT mw).1 ho<|hm x<|LO hx).1 t;rw[e];exact⟨((R.HE z mz).at hx).2 t1,((R.HE w mw).at hx).2 t2⟩
end
section
variable{S:A3 CC}{l:A3 Bc}{α:Type}{M:A3 H3}{s:H6}{Z:ZL}{b:A3 Bc}
def Jq{β:Type}{l A C:A3 α}{x:α}(f:α->β)(h:l=A++x::C):AB (l.map f) (A.length:Int)=some (f x):=by have:=Bk h;rw[JT] at this⊢;rw[H9,this];rfl
def wA(I:CJ S M){f:CC}(mf:f∈S){p:Q3}(mp:p∈f.2):Bt M p:=(((I.EZ f mf).2.2.2 p).1 mp).1
def aaq(M:A3 H3)(h:Bc)(r:H6×Bool):Prop:=(r.2=true/\(∃Z',RS r.1 (rh h::M) Z')/\∃S',CJ S' (rh h::M))\/(r.2=false/\ ¬HM (rh h::M))
def aoM{k:H3}(R:RS s M Z)(I:CJ S M)(hz:k.1≠o3)(hn:∀a∈k::M,∀b∈k::M,R2 a b->a=b)(ho:∀z∈Z,val k z.1<=0):RS s (k::M) Z/\CJ S (k::M):=by
 have hf:∀f∈S,∀p∈f.2,val k p<=0:=λf mf p mp=>by
  let⟨z,mz,e⟩:=BR.1<|(R.mem p).2<|wA I mf mp
  rw[<-e];exact ho z mz
 have I':=I.out hz hn hf;have hv:=λp=>(R.mem p).trans (zZ I.bdd (λq=>yk I hf) p).symm
 exact⟨⟨R.ok,R.GW,λg=>(R.O6 I g).trans<|YQ I' (Mb.refl _) hv R.nd g,R.cor,R.on,R.nd,hv,R.HE⟩,I'⟩
def LW(W:ZL):A3 T3×A3 (A3 Int):=(W.map<|λz=>C1 z.1,W.map (·.2))
def qW(W:ZL)(z:Q3×A3 Int):LW (W++[z])=((LW W).1++[C1 z.1],(LW W).2++[z.2]):=by unfold LW;simp
def aaa(W:ZL):(LW W).1.length=W.length/\(LW W).2.length=W.length:=by unfold LW;simp
def qc{b:Nat}{s:A3 α}(hb:b<=1000)(hs:s.length<=1000000000):BG b [] s=some s:=by unfold BG;have h1:(([]:A3 α).length+s.length)*b<=140737488355328:=Cu (HK (show([]:A3 α).length+s.length<=1000000000 by simp;omega) hb) A4;rw[B5 h1,B5 (show([]:A3 α).length+s.length<=9223372036854775807 by simp;omega)];rfl
theorem wQ{h:Bc}(R:RS s M Z)(I:CJ S M)(oh:Bp h)(hM:Iw 14 M)(hp:∀g∈M,Hu g.1)(hlen:M.length<=31):Yd (aaq M h) (OG s h):=by
 have hM':Iw 14 (rh h::M):=λg mg=>(Ao.1 mg).elim (λe=>by rw[e];exact⟨oh.lvn A4,oh.Jb⟩)<|hM g
 have hp':∀g∈rh h::M,Hu g.1:=λg mg=>(Ao.1 mg).elim (λe=>by rw[e];exact oh.kH)<|hp g
 have hnm:∀a∈rh h::M,∀b∈rh h::M,R2 a b->a=b:=λa ma b mb=>Tg (hp' a ma)<|hp' b mb
 have hz:(rh h).1≠o3:=oh.kH.nz;have zl:=R.arW hlen;have zv:∀z∈Z,D6 500 z.1:=λz mz=>QR (j4 hM<|R.FT mz) A4
 have sl:=R.len;let⟨hs,cs,os⟩:=s;have ecs:cs=Z.map (λz=>C1 z.1):=R.cor;have eos:os=Z.map (·.2):=R.on;subst ecs eos;have cl:(Z.map λz=>C1 z.1).length=Z.length:=BY _;unfold OG;dsimp only at sl⊢;refine C9 Z (λ(t:A3 AD×Bool×Bool) i=>(t.1,t.2.1,t.2.2,i)) (λA t=>t=(A.map<|λz=>BW<|val (rh h) z.1,A.any<|λz=>decide<|val (rh h) z.1<0,A.any<|λz=>decide<|0<val (rh h) z.1)) (λA z C t k hA hP next=>?_) (λt k hP=>?_) (s0:=([],false,false)) rfl A4
 ·dsimp;rw[cl,CD hA,BH];have mz:=at_mem hA;have al:=Cn hA;let⟨vv,vl⟩:=j5 oh (zv z mz) A4;have sg:=We vl A4;rw[hP];refine A6 (Jq _ hA) (A6 vv (A6 (app_1 A4 (by rw[BY];omega)) ?_));have fin:∀B9 BJ:Int,(A.any (λz=>decide<|val (rh h) z.1<0)=false->B9=(val (rh h) z.1).num.sign)->(A.any (λz=>decide<|0<val (rh h) z.1)=false->BJ=(val (rh h) z.1).num.sign)->Yd (aaq M h) (bd (AH<|(A.length:Int)+1) λBh=>k (A.map (λz=>BW<|val (rh h) z.1)++[BW<|val (rh h) z.1],(A.any (λz=>decide<|val (rh h) z.1<0)||decide (B9<0)),(A.any (λz=>decide<|0<val (rh h) z.1)||decide (0<BJ)),Bh)):=λB9 BJ e1 e2=>by
   refine A6 (C4 hA A4)<|next (_,_,_) ?_
   refine Prod.ext AV<|Prod.ext ?_ ?_
   ·dsimp;rw[ZP];cases c:A.any (λz=>decide<|val (rh h) z.1<0) with
    |true=>rfl
    |false=>rw[e1 c,sign_neg];simp
   ·dsimp;rw[ZP];cases c:A.any (λz=>decide<|0<val (rh h) z.1) with
    |true=>rfl
    |false=>rw[e2 c,Yn];simp
  refine GO (λg1=>⟨_,sg,GO (λg2=>⟨_,sg,fin _ _ (λ_=>rfl) λ_=>rfl⟩) λg2=>fin _ _ (λ_=>rfl) λc=>?_⟩) λg1=>GO (λg2=>⟨_,sg,fin _ _ (λc=>?_) λ_=>rfl⟩) λg2=>fin _ _ (λc=>?_) λc=>?_
  ·rw[c] at g2;cases g2
  ·rw[c] at g1;cases g1
  ·rw[c] at g1;cases g1
  ·rw[c] at g2;cases g2
 ·dsimp;rw[cl,CG,Ar,hP];refine Ad (λhin=>AU<| .inr ⟨rfl,?_⟩) λhin=>Ad (λbH=>AU<| .inl ⟨rfl,?_⟩) λbH=>?_
  ·refine I.empty λf mf p mp=>?_
   let⟨z,mz,e⟩:=BR.1<|(R.mem p).2<|wA I mf mp
   rw[<-e,<-Rat.not_lt];intro c;rw[GA,Za] at hin;exact hin z mz<|B5 c
  ·rw[GA,Za] at bH;have:=aoM R I hz hnm λz mz=>Rat.not_lt.1 λc=>bH z mz<|B5 c
   exact⟨⟨_,this.1⟩,_,this.2⟩
  ·rw[WK,iM] at hin bH;let⟨zi,mzi,hzi⟩:=hin;let⟨zo,mzo,hzo⟩:=bH;have hzi:=As hzi;have hzo:=As hzo;have hin:HM (rh h::M):=by let⟨o,ho⟩:=I.int;let⟨q,q1,q2⟩:=sE ho (R.FT mzi).1 hzi;exact⟨q,λg mg=>(Ao.1 mg).elim (λe=>by rw[e];exact q2)<|q1 g⟩
   let⟨S',I'⟩:=anR I hM' A4 hp' hin;have nw:∀W:ZL,W.length<=1000000000->(LW W).1.length<=1000000000/\(LW W).2.length<=1000000000:=λW hW=>by rw[(aaa W).1,(aaa W).2];exact⟨hW,hW⟩
   refine C9 Z (λ(t:A3 T3×A3 (A3 Int)) i=>(t.1,t.2,i)) (λA t=>t=LW (A.flatMap<|KG (hs.length:Int) (rh h) Z)) (λA z C t Mh hA hQ next=>?_) (λt Mh hQ=>?_) (s0:=([],[])) rfl A4
   ·dsimp;rw[CD hA,BH];have mz:=at_mem hA;have al:=Cn hA;have wl:(A.flatMap<|KG (hs.length:Int) (rh h) Z).length<=29791*29793:=by
     have:=SM (l:=A) (f:=KG (hs.length:Int) (rh h) Z) (w:=29793) λz _=>by have:=yl (hs.length:Int) (rh h) Z z;omega
     exact Cu this<|HK A4<|BM _
    generalize hW:A.flatMap (KG (hs.length:Int) (rh h) Z)=W at wl hQ
    let⟨vv,vl⟩:=j5 oh (zv z mz) A4;have sg:=We vl A4;have iv:=Jq (λz:Q3×A3 Int=>BW<|val (rh h) z.1) hA;have ic:=Jq (λz:Q3×A3 Int=>C1 z.1) hA;have io:=Jq (λz:Q3×A3 Int=>z.2) hA;have zo:=(R.HE z mz).len;have zn:z.2.length<=100:=by dsimp only at zo;omega
    refine A6 iv<|A6 iv<|A6 sg ?_
    refine DJ (λt':A3 T3×A3 (A3 Int)=>t'=LW (W++bif decide (val (rh h) z.1<0) then [z] else [])) (λt' h'=>?_) λKq Eu=>?_
    ·refine A6 iv (A6 iv<|A6 sg ?_);refine DJ (λt':A3 T3×A3 (A3 Int)=>t'=LW (W++M5 (hs.length:Int) (rh h) z)) (λt2 h2=>?_) λk47 J9=>?_
     ·refine C9 Z (λ(t:A3 T3×A3 (A3 Int)) i=>(t.1,t.2,i)) (λB t=>t=LW (W++(M5 (hs.length:Int) (rh h) z++B.flatMap (KH (hs.length:Int) (rh h) z)))) (λB w D u k62 hB hU FE=>?_) (λu k62 hU=>?_) (s0:=t2) (by rw[h2];simp) A4
      ·dsimp;rw[CD hB,BH];have mw:=at_mem hB;have bl:=Cn hB;have el:(M5 (hs.length:Int) (rh h) z++B.flatMap (KH (hs.length:Int) (rh h) z)).length<=29793:=by
        rw[Dg];have:=yn (hs.length:Int) (rh h) z;have:=SM (l:=B) (f:=KH (hs.length:Int) (rh h) z) (w:=1) λw _=>yo _ _ _ _
        omega
       generalize hV:M5 (hs.length:Int) (rh h) z++B.flatMap (KH (hs.length:Int) (rh h) z)=V at el hU
       let⟨ww,wl2⟩:=j5 oh (zv w mw) A4;have sgw:=We wl2 A4;have jv:=Jq (λz:Q3×A3 Int=>BW<|val (rh h) z.1) hB;have jc:=Jq (λz:Q3×A3 Int=>C1 z.1) hB;have jo:=Jq (λz:Q3×A3 Int=>z.2) hB;have wo:=(R.HE w mw).len;have wn:w.2.length<=100:=by dsimp only at wo;omega
       have fl:M5 (hs.length:Int) (rh h) z++(B++[w]).flatMap (KH (hs.length:Int) (rh h) z)=V++KH (hs.length:Int) (rh h) z w:=by rw[<-hV];simp
       refine DJ (λt':A3 T3×A3 (A3 Int)=>t'=LW (W++(V++KH (hs.length:Int) (rh h) z w))) (λt' h'=>A6 (C4 hB A4) (FE (_,_) (by rw[fl,<-h']))) λk65 h65=>?_
       refine A6 io<|A6 jo<|A6 (xU (R.HE w mw).nd zn wn)<|A6 iv<|A6 iv<|A6 sg ?_
       have two:decide ((2:Int)<=((List.filter (λx=>decide<|x∈w.2) z.2).length:Int))=decide (2<=(Ja z.2 w.2).length):=Ha.2 (by unfold Ja;omega);rw[sign_neg,two];by_cases h0:val (rh h) z.1<0
       ·have g1:gd (decide<|val (rh h) z.1<0) true=true:=by rw[B5 h0];rfl
        rw[Ck g1];refine A6 jv ?_;rw[Ck g1];refine A6 jv ?_;rw[Ck g1];refine A6 sgw ?_;rw[Yn];refine Ad (λhc=>?_) λhc=>h65 _ (by rw[hU];unfold KH;rw[hc];simp)
        have h1:0<val (rh h) w.1:=by rw[C6,C6] at hc;exact As hc.1.2
        have BE:=lvs vl wl2;have hne:val (rh h) z.1-val (rh h) w.1≠0:=AK;have hdv:=Lb vl<|lvi BE hne
        rw[<-Pa] at hdv;have hwz:=aa7 (zv w mw)<|zv z mz
        have hsc:=SU hwz hdv;refine A6 iv<|A6 iv<|A6 iv<|A6 iv<|A6 jv<|A6 jv<|A6 (Ue vl wl2 A4 A4)<|A6 (arK vl BE A4 A4 hne)<|A6 ic<|A6 jc<|A6 ic<|A6 (abT (zv w mw) (zv z mz) A4)<|A6 (WU hwz hdv A4)<|A6 (qz (zv z mz) hsc A4) ?_
        have wv:(W++V).length<=1000000000:=by rw[Dg];omega
        rw[hU];refine A6 (app_1 A4 (nw _ wv).1)<|A6 (app_1 A4 ?_)<|A6 (app_1 A4 (nw _ wv).2)<|h65 _ ?_
        ·have:=List.length_filter_le (λx=>decide<|x∈w.2) z.2;omega
        ·unfold KH;rw[hc,BH,<-Hm,qW];rfl
       ·have g1:gd (decide<|val (rh h) z.1<0) true=false:=by rw[Bu h0];rfl
        rw[Ex g1,Ex g1,Ex g1];rw[Bu h0,Qe,Qe,Ar];refine h65 _ (by rw[hU];unfold KH;rw[Bu h0];simp)
      ·dsimp;rw[CG,Ar];refine A6 (C4 hA A4)<|next (_,_) ?_
       rw[Zb,hW];simp[Pg,List.flatMap_nil,Ih];exact hU
     ·have eq0:decide ((val (rh h) z.1).num.sign=0)=decide (val (rh h) z.1=0):=sign_zero _;rw[eq0,h'];have wv:(W++bif decide (val (rh h) z.1<0) then [z] else []).length<=1000000000:=by rw[Dg];cases decide (val (rh h) z.1<0)<;>simp<;>omega
      refine Ad (λhc=>A6 ic<|A6 (app_1 A4 (nw _ wv).1)<|A6 io<|A6 (qc A4 A4)<|A6 (app_1 A4 A4)<|A6 (app_1 A4 (nw _ wv).2)<|J9 _ ?_) λhc=>J9 _ ?_
      ·unfold M5;rw[hc,BH,<-Hm,qW]
      ·unfold M5;rw[hc,Ar,Ih]
    ·rw[sign_neg,hQ];refine Ad (λhc=>A6 ic<|A6 (app_1 A4 (nw W A4).1)<|A6 io<|A6 (qc A4 A4)<|A6 (app_1 A4 (nw W A4).2)<|Eu _ ?_) λhc=>Eu _ ?_
     ·rw[hc,BH,qW]
     ·rw[hc,Ar,Ih]
   ·dsimp;rw[CG,Ar,hQ];have hvn:=fT R.GW;have hsl:hs.length<=31:=A4;have sM:∀x∈hs,rh x∈M:=λx mx=>((R.fac<|rh x).1<|BR.2 ⟨x,mx,rfl⟩).1
    have O5:h∉hs:=λc=>by
     have:=(R.FT mzo).1 _<|sM h c
     grind
    have Zm:=λp=>ake (s:=(hs,_,_)) R I hz p
    have Zn:=ahP (s:=(hs,_,_)) (h:=h) R I (hs.length:Int);have Zo:=λy=>akd (s:=(hs,_,_)) (h:=h) R I sM (y:=y)
    dsimp only at Zm Zo
    generalize hW:Z.flatMap (KG (hs.length:Int) (rh h) Z)=W at Zm Zn Zo
    have Wl:W.length<=1000000000:=by
     have:=SM (l:=Z) (f:=KG (hs.length:Int) (rh h) Z) (w:=29793) λz _=>by have:=yl (hs.length:Int) (rh h) Z z;omega
     rw[hW] at this;exact Cu this<|Cu (HK zl<|BM _) A4
    have F:=YQ I' (Mb.refl _) Zm Zn;have lM:∀x∈hs++[h],rh x∈rh h::M:=λx mx=>(Bs.1 mx).elim (λm=>C2 _<|sM x m) λm=>by rw[Cl.1 m];exact DT
    have lo:∀x∈hs++[h],Bp x:=λx mx=>(Bs.1 mx).elim (R.ok x) λm=>by rw[Cl.1 m];exact oh
    refine A6 (Yz [] hs DC)<|A6 (Yz _ _ DC) ?_
    rw[KC];refine Aq (an9 (l:=hs++[h]) DC ?_ Wl Zo (cs:=(LW W).1) λx mx y my cx cy e=>?_) λr hr=>AU<| .inl ⟨rfl,?_,S',I'⟩
    ·rw[UB];exact⟨hvn,AV,λa ma b mb e=>O5 (by rw[<-Cl.1 mb,<-e];exact ma)⟩
    ·let⟨f,mf,ef⟩:=BR.1 ((F<|rh x).2 ⟨lM x mx,cx⟩);let⟨g,mg,eg⟩:=BR.1<|(F<|rh y).2 ⟨lM y my,cy⟩
     have:=xw I' mf mg (by rw[ef,eg];show rn x.1=rn y.1;rw[e]);rw[ef,eg] at this;exact Pm (lo x mx) (lo y my) this
    ·let⟨r1,r2,r3,Z',e1,e2,e3⟩:=hr;refine⟨Z',λx mx=>lo x ((r2 x).1 mx).1,r1,λk=>?_,?_,e2,by rw[e1];exact Zn,λp=>by rw[e1];exact Zm p,e3⟩
     ·rw[e1];constructor
      ·intro mk;let⟨x,mx,e⟩:=BR.1 mk;rw[<-e];exact⟨lM x ((r2 x).1 mx).1,((r2 x).1 mx).2⟩
      ·rintro⟨mk,ck⟩;rcases Ao.1 mk with e|mk'
       ·rw[e] at ck⊢;exact BR.2 ⟨h,(r2 h).2 ⟨AV,ck⟩,rfl⟩
       ·let⟨f,mf,ef⟩:=BR.1 ((F k).2 ⟨mk,ck⟩);have:=alA I I' mf (by rw[ef];exact mk');rw[ef] at this;let⟨x,mx,e⟩:=BR.1<|(R.O6 I k).2 this
        rw[<-e] at ck⊢;exact BR.2 ⟨x,(r2 x).2 ⟨Ij _ mx,ck⟩,rfl⟩
     ·rw[r3];unfold LW;have:W.map (λz=>C1 z.1)=(W.map (·.1)).map C1:=by rw[U6];rfl
      rw[this,<-e1,U6];rfl
def vO{F:A3 CC}(o:∀h∈l,Bp h)(hl:l.length<=50)(I:CJ F (l.map rh)):Yd (λr=>∃Z,RS r (l.map rh) Z) (VC l):=by
 unfold VC;refine Aq (vq o hl) λx hx=>AU ?_
 rcases hx with⟨_,h⟩|⟨_,_,h⟩|⟨_,_,_,_,_,h⟩
 ·exact absurd I.bdd h
 ·exact absurd I.int h
 ·exact h
def mE(R:RS s (l.map rh) Z)(I:CJ S (l.map rh))(ol:∀h∈l,Bp h)(ob:∀h∈b,Bp h)(hlen:l.length+b.length<=32):Yd (λt=>(t.2=true/\∃N S Z,(∀k,k∈N↔k∈b.map rh\/k∈l.map rh)/\RS t.1 N Z/\CJ S N)\/(t.2=false/\ ¬HM (b.map rh++l.map rh))) (P9 s b):=by
 unfold P9;refine C9 b (λ(t:H6×Bool) i=>(t.1,t.2,i)) (λA t=>(t.2=true/\∃N S Z,(∀k,k∈N↔k∈A.map rh\/k∈l.map rh)/\N.length=A.length+l.length/\RS t.1 N Z/\CJ S N)\/(t.2=false/\ ¬HM (b.map rh++l.map rh))) (λA h C t k hA hP next=>?_) (λt k hP=>?_) (s0:=(s,true)) (.inl ⟨rfl,l.map rh,S,Z,AV,AV,R,I⟩) A4
 ·dsimp only;rw[CD hA,Lt];have al:=Cn hA;rcases hP with⟨e,N,T,Y,n1,n2,R1,I1⟩|⟨e,hn⟩
  ·rw[e,BH];have oh:=ob h<|at_mem hA
   have sub:∀g∈rh h::N,g∈b.map rh++l.map rh:=λg mg=>by
    rcases Ao.1 mg with e|mg
    ·rw[e];exact Ij _<|BR.2 ⟨h,at_mem hA,rfl⟩
    ·rcases(n1 g).1 mg with m|m
     ·let⟨x,mx,e⟩:=BR.1 m;exact Ij _ (BR.2 ⟨x,by rw[hA];exact Ij _ mx,e⟩)
     ·exact UI _ m
   have Fm:Iw 14 N:=λg mg=>by
    rcases Bs.1 (sub g<|C2 _ mg) with m|m
    ·exact Bp.Fm ob g m
    ·exact Bp.Fm ol g m
   have pr:∀g∈N,Hu g.1:=λg mg=>by
    rcases Bs.1 (sub g<|C2 _ mg) with m|m
    ·exact Bp.Om ob g m
    ·exact Bp.Om ol g m
   refine A6 (Bk hA)<|Aq (wQ R1 I1 oh Fm pr A4) λr hr=>A6 (C4 hA A4)<|next r ?_
   rcases hr with⟨e1,⟨Z',R'⟩,S',I'⟩|⟨e1,hn⟩
   ·refine .inl ⟨e1,_,S',Z',λk=>?_,DC,R',I'⟩;rw[Ao,n1,G9,Bs];simp only[MO,ZM,Cl];constructor
    ·rintro(a|a|a)
     ·exact .inl<| .inr a
     ·exact .inl<| .inl a
     ·exact .inr a
    ·rintro((a|a)|a)
     ·exact .inr<| .inl a
     ·exact .inl a
     ·exact .inr<| .inr a
   ·exact .inr ⟨e1,λ⟨q,hq⟩=>hn ⟨q,λg mg=>hq g<|sub g mg⟩⟩
  ·rw[e,Ar];exact AU<| .inr ⟨rfl,hn⟩
 ·dsimp only;rw[CG,Qe,Ar];rcases hP with⟨e,N,T,Y,n1,n2,R1,I1⟩|⟨e,hn⟩
  ·exact AU<| .inl ⟨e,N,T,Y,n1,R1,I1⟩
  ·exact AU<| .inr ⟨e,hn⟩
def agR(I:CJ S (l.map rh))(ol:∀h∈l,Bp h)(ob:∀h∈b,Bp h)(hlen:l.length+b.length<=32):Yd (λr=>r=true↔HM (b.map rh++l.map rh)) (dq l b):=by
 unfold dq;refine Aq (vO ol A4 I) λs ⟨Z,R⟩=>Aq (mE R I ol ob hlen) λr hr=>AU ?_
 rcases hr with⟨e,N,T,Y,n1,R1,I1⟩|⟨e,hn⟩
 ·refine⟨λ_=>?_,λ_=>e⟩;let⟨q,hq⟩:=I1.int;exact⟨q,λg mg=>hq g<|(n1 g).2<|Bs.1 mg⟩
 ·exact⟨λc=>(by rw[e] at c;cases c),λc=>absurd c hn⟩
def acv(l:A3 Bc)(r:Int):Prop:=(r=11/\ ¬Asc l)\/(Asc l/\((r=13/\ ¬Ef (l.map rh))\/(r=12/\Ef (l.map rh)/\ ¬HM (l.map rh))\/(Ef (l.map rh)/\HM (l.map rh)/\∃b:A3 Bc,b.Pairwise HN/\(∀S,CJ S (l.map rh)->∀h,h∈b↔h∈l/\rh h∈S.map (·.1))/\r=bif decide (b.length<l.length) then 1 else 0)))
def afS(o:∀h∈l,Bp h)(hc:bk l=some 0)(hl:l.length<=32):Yd (acv l) (Jh l):=by
 unfold Jh;rw[Bu (show¬32<(l.length:Int) by omega),Ar,hc];refine A6 rfl ?_;show Yd _ (lp _ _ 1);have fin:Asc l->∀k:Int->AA Int,Yd (acv l)
   (bd (VP l) λBr=>cond ((decide<|Br.2=0)&&(decide<|(Br.1.1.length:Int)<(l.length:Int))) (some 1)<|some Br.2):=λhP _=>by
  refine Aq (vq o A4) λr hr=>?_
  rcases hr with⟨e,h⟩|⟨e,h1,h2⟩|⟨e,h1,h2,h3,h4,_⟩
  ·rw[e];exact AU<| .inr ⟨hP,.inl ⟨rfl,h⟩⟩
  ·rw[e];exact AU<| .inr ⟨hP,.inr<| .inl ⟨rfl,h1,h2⟩⟩
  ·rw[e];have hd:decide ((r.1.1.length:Int)<(l.length:Int))=decide (r.1.1.length<l.length):=Ha.2 A4;rw[hd];show Yd _ (cond (decide<|r.1.1.length<l.length) (some 1)<|some 0);cases hq:decide (r.1.1.length<l.length)
   ·exact AU (.inr ⟨hP,.inr (.inr ⟨h1,h2,r.1.1,h3,h4,by rw[hq];rfl⟩)⟩)
   ·exact AU (.inr ⟨hP,.inr (.inr ⟨h1,h2,r.1.1,h3,h4,by rw[hq];rfl⟩)⟩)
 cases l with
 |nil=>obtain⟨F,hF⟩:∃F,18446744073709551616=F+1:=⟨18446744073709551615,rfl⟩;rw[hF];exact fin (λA x y C e=>by cases A<;>cases e) λ_=>none
 |cons a T=>
  refine jA (a::T) (λ(_:Unit) i=>i) (λA _=>A≠[]/\Asc A) (λA x C s k hA hP next=>?_) (λs k hP=>?_) [a] T (s0:=()) rfl ⟨AV,λA x y C e=>by have:=congrArg List.length e;simp at this;omega⟩ A4
  ·rw[CD hA,BH];let⟨h0,hP⟩:=hP;obtain rfl|⟨B,y,rfl⟩:A=[]\/∃B y,A=B++[y]:=(iX A).imp id λ⟨B,y,h⟩=>⟨B,y,by rw[h,qP]⟩
   ·exact absurd rfl h0
   ·have i1:AB (a::T) (B.length:Int)=some y:=by rw[JT,hA];simp
    have i2:=Bk hA;have al:=Cn hA;have f:=C4 hA A4;have en:(B++[y]).length=B.length+1:=AV;have nx:=next ()
    have GW:=aal (l:=a::T) (A:=B) (x:=y) (y:=x) (C:=C) (by rw[hA];simp) hP
    generalize (B++[y]).length=m at*
    subst en;refine A6 (x:=(B.length:Int)) (by rw[EO ⟨A4,A4⟩];exact congrArg some A4)<|A6 i1<|A6 i2<|A6 (nN y.1 x.1) ?_
    refine Ad (λhv=>AU<| .inl ⟨rfl,λc=>?_⟩) λhv=>A6 f (nx ⟨AV,GW (by simpa using hv)⟩)
    have:=c B y x C (by rw[hA];simp);have h9: ¬Je y.1 x.1:=by simpa using hv
    exact h9 this
  ·rw[CG,Ar];exact fin hP.2 k
def akB(o:∀h∈l,Bp h)(I:CJ S (l.map rh))(hb:b.Pairwise HN)(hm:∀h,h∈b↔h∈l/\rh h∈S.map (·.1)):b.length=S.length:=by
 have nS:(S.map (·.1)).Nodup:=Nj.2<|I.RG.imp λh=>h
 have nb:(b.map rh).Nodup:=Nj.2 (UJ (λ{x y} mx my h e=>by rw[Pm (o x ((hm x).1 mx).1) (o y ((hm y).1 my).1) e] at h;exact WZ _ h) hb)
 have h1:=Mq nb λx mx=>by obtain⟨h,mh,rfl⟩:=BR.1 mx;exact((hm h).1 mh).2
 have h2:=Mq nS λx mx=>by obtain⟨f,mf,rfl⟩:=BR.1 mx;let⟨h,mh,e⟩:=BR.1 (I.EZ f mf).1;refine BR.2 ⟨h,(hm h).2 ⟨mh,?_⟩,e⟩;rw[e];exact BR.2 ⟨f,mf,rfl⟩
 rw[BY,BY] at h1 h2;omega
def ah7{s:AD}(h:s.length<=100):dr s=some 0:=by
 have abi:Yd (λk=>0<=k/\k<=(s.length:Int)) (L5 s):=by
  unfold L5;refine C9 s (λ(_:Unit) i=>i) (λA _=>True) (λA x C u k hA _ next=>?_) (λu k _=>?_) (s0:=()) trivial A4
  ·have al:=Cn hA;rw[CD hA,BH];exact A6 (Bk hA)<|Ad (λ_=>AU ⟨A4,A4⟩) λ_=>A6 (C4 hA A4)<|next () trivial
  ·rw[CG,Ar];exact AU ⟨A4,A4⟩
 have sgn:∀t:AD,Yd (λr=>r<0->0<t.length) (Ji t):=λt=>by
  unfold Ji;refine Ad (λ_=>AU λc=>absurd c<|Int.lt_irrefl 0) λ_=>?_
  cases t with
  |nil=>exact AU λc=>absurd c Lg
  |cons x t=>rw[B5 (show(0:Int)<((x::t).length:Int) by simp),show gd true true=true from rfl,Ck rfl];exact A6 (x:=x) rfl (Ad (λ_=>AU λ_=>by simp) λ_=>AU λ_=>by simp)
 have abs:∀t:AD,t.length<=100->Yd (λr=>r.length<=100) (Ta t):=λt ht=>by
  unfold Ta;refine Aq (sgn t) λr hr=>Ad (λhc=>?_) λ_=>AU ht
  have:=hr<|As hc
  exact A6 (E6 A4 A4 A4) (AU (by rw[Ii,E1];omega))
 have num:Yd (λr=>r.length<=100) (TY s):=by unfold TY;exact Aq abi λk hk=>A6 (E6 A4 A4 A4) (AU (by rw[Ii,E1];omega))
 have den:Yd (λr=>r.length<=100) (TZ s):=by
  unfold TZ;refine Aq abi λk hk=>Ad (λ_=>AU Lg) λhc=>?_
  have:=Bg hc;exact A6 BC (A6 (E6 A4 A4 A4) (AU (by rw[Ii,E1];omega)))
 refine GJ ?_;unfold dr;refine Aq num λa ha=>Aq (abs a ha) λb hb=>?_
 rw[Bu (show¬(600:Int)<(b.length:Int) by omega),show gd false false=true from rfl,Ck rfl];refine Aq den λc hc=>?_
 rw[Bu (show¬(600:Int)<(c.length:Int) by omega)];exact AU rfl
def afq(h:∀x∈l,x.2.length<=100)(hl:l.length<=100000000):bu l=some 0:=by
 refine GJ ?_;unfold bu;refine C9 l (λ(_:Unit) i=>i) (λA _=>True) (λA x C u k hA _ next=>?_) (λu k _=>?_) (s0:=()) trivial A4
 ·rw[CD hA,BH];refine A6 (Bk hA)<|A6 (ah7<|h x<|at_mem hA) ?_
  rw[show(!decide ((0:Int)=0))=false from rfl,Ar];exact A6 (C4 hA A4)<|next () trivial
 ·rw[CG,Ar];exact AU rfl
def agN(hl:l.length<=100000000):P7 l l=some true:=by
 refine GJ ?_;unfold P7;rw[B5 rfl,Qd,Ar];refine C9 l (λ(_:Unit) i=>i) (λA _=>True) (λA x C u k hA _ next=>?_) (λu k _=>?_) (s0:=()) trivial A4
 ·rw[CD hA,BH];refine A6 (Bk hA)<|A6 (Bk hA) ?_
  rw[B5 rfl,Qd,Ar];exact A6 (C4 hA A4)<|next () trivial
 ·rw[CG,Ar];exact AU rfl
abbrev D9:=A3 Bc
def Small(l:D9):Prop:=(∀h∈l,in3 h.1)/\l.length<=10/\∀h∈l,h.2.length<=14
def OkB(l:D9)(S:A3 CC):Prop:=(∀h∈l,Bp h)/\CJ S (l.map rh)/\∀k∈l.map rh,k∈S.map (·.1)
def ai0{l:D9}(I:CJ S (l.map rh))(h: ¬S.length<l.length):∀k∈l.map rh,k∈S.map (·.1):=λk mk=>Cr λc=>by
 have nS:(k::S.map (·.1)).Nodup:=iK.2 ⟨c,Nj.2<|I.RG.imp λh=>h⟩;have:=Mq nS λx mx=>(Ao.1 mx).elim (λe=>by rw[e];exact mk) λm=>by obtain⟨f,mf,rfl⟩:=BR.1 m;exact(I.EZ f mf).1
 simp at this;omega
theorem Yh{l:D9}(hs:Small l):∃k,NK l=some k/\Jh l=some k.2/\(k.2=0->OkB l k.1):=by
 let⟨hi,l10,short⟩:=hs;let⟨c,c1,c2,c3⟩:=tw (λh mh=>⟨hi h mh,short h mh⟩) A4;have d32:decide ((32:Int)<(l.length:Int))=false:=Bu A4;by_cases h0:c=0
 ·subst h0;have o:=c3 rfl;let⟨k,k1,k2⟩:=xD o c1 A4;let⟨r,r1,r2⟩:=afS o c2 A4;have kr:k.2=r:=by
   rcases k2 with⟨e,h⟩|⟨h,k2⟩<;>rcases r2 with⟨e',h'⟩|⟨h',r2⟩
   ·rw[e,e']
   ·grind
   ·grind
   ·rcases k2 with⟨e,n⟩|⟨e,n1,n2⟩|⟨I,e⟩<;>rcases r2 with⟨e',n'⟩|⟨e',n1',n2'⟩|⟨n1',n2',b',p1,p2,e'⟩
    ·rw[e,e']
    ·grind
    ·grind
    ·grind
    ·rw[e,e']
    ·grind
    ·exact absurd I.bdd n'
    ·exact absurd I.int n2'
    ·rw[e,e',akB o I p1<|p2 _ I]
  refine⟨k,k1,by rw[kr];exact r1,λz=>?_⟩;rcases k2 with⟨e,h⟩|⟨h,⟨e,_⟩|⟨e,_⟩|⟨I,e⟩⟩
  ·grind
  ·grind
  ·grind
  ·refine⟨o,I,ai0 I λc=>?_⟩;rw[e,B5 c] at z;cases z
 ·refine⟨([],c),?_,?_,λz=>absurd z h0⟩
  ·unfold NK;rw[d32,Ar,c1];show cond (!decide (c=0)) _ _=_;rw[Bu h0];rfl
  ·unfold Jh;rw[d32,Ar,c2];show cond (!decide (c=0)) _ _=_;rw[Bu h0];rfl
def Yd.vL(h:S.length<=1000):Yd (λr=>r=S.map (·.1)) (T8 S):=by
 unfold T8;refine C9 S (λ(t:A3 H3) i=>(t,i)) (λA t=>t=A.map (·.1)) (λA f C t k hA hP next=>?_) (λt k hP=>?_) (s0:=[]) rfl A4
 ·dsimp;have al:=Cn hA;rw[CD hA,BH];exact A6 (Bk hA) (A6 (app_1 A4 (by rw[hP,BY];omega)) (A6 (C4 hA A4) (next _ (by rw[hP];simp))))
 ·dsimp;rw[CG,Ar];exact AU hP
def X2(y x:D9):Prop:= ¬HM (y.map rh++x.map rh)
def Qs(f:D9->Int):A3 D9->Int
 |[]=>0
 |x::l=>if f x=0 then Qs f l else f x
def oJ{f:D9->Int}{x:D9}{C:A3 D9}(hx:f x≠0):∀{A:A3 D9},(∀y∈A,f y=0)->Qs f (A++x::C)=f x
 |[],_=>by rw[KC,Qs,if_neg hx]
 |y::A,h=>by rw[SI,Qs,if_pos<|h y DT];exact oJ hx λz mz=>h z<|C2 _ mz
def p8{f:D9->Int}:∀{A:A3 D9},(∀y∈A,f y=0)->Qs f A=0
 |[],_=>rfl
 |y::A,h=>by rw[Qs,if_pos<|h y DT];exact p8 λz mz=>h z<|C2 _ mz
def QN{A:A3 α}{x:α}{p:α->Prop}(h:∀y∈A,p y)(hx:p x):∀y∈A++[x],p y:=λy my=>(Bs.1 my).elim (h y) λm=>by rw[Cl.1 m];exact hx
def XK(f:D9->Int)(l:A3 D9)(v:Int):Prop:=(Qs f l≠0/\v=Qs f l)\/(Qs f l=0/\((v=16/\ ¬l.Pairwise X2)\/(v=0/\l.Pairwise X2)))
theorem XK.same{f:D9->Int}{l:A3 D9}{v w:Int}(a:XK f l v)(b:XK f l w):v=w:=by unfold XK at a b;grind
theorem mX{l:A3 D9}(hl:l.length<=64)(hs:∀x∈l,Small x):Yd (XK (λx=>(Jh x).getD 0) l) (OD l):=by
 have cb:∀x∈l,Jh x=some ((Jh x).getD 0):=λx mx=>by
  let⟨k,_,e,_⟩:=Yh<|hs x mx
  rw[e];rfl
 unfold OD;rw[Bu (show¬(64:Int)<(l.length:Int) by omega),Ar];refine C9 l (λ(_:Unit) i=>i) (λA _=>∀y∈A,(Jh y).getD 0=0) (λA x C s k hA hP next=>?_) (λs k hP=>?_) (s0:=()) AV A4
 ·rw[CD hA,BH];refine A6 (Bk hA) (A6 (cb x<|at_mem hA) (Ad (λhc=>AU<| .inl ?_) λhc=>A6 (C4 hA A4) (next () (QN hP (by simpa using hc)))));have hx:(Jh x).getD 0≠0:=by simpa using hc
  have:=oJ (f:=λx=>(Jh x).getD 0) (C:=C) hx hP;rw[hA,this];exact⟨hx,rfl⟩
 ·rw[CG,Ar];have f0:=p8 (f:=λx=>(Jh x).getD 0) hP;refine C9 l (λ(_:Unit) i=>i) (λA _=>A.Pairwise X2) (λA x C s k hA hQ next=>?_) (λs k hQ=>?_) (s0:=()) List.Pairwise.nil A4
  ·rw[CD hA,BH];have al:=Cn hA;have mx:=at_mem hA;let⟨kx,_,ex,hx⟩:=Yh<|hs x mx
   let⟨ox,Ix,_⟩:=hx (by have:=hP x mx;rw[ex] at this;exact this);refine C9 A (λ(_:Unit) i=>i) (λB _=>∀y∈B,X2 y x) (λB y D s k2 hB hU FE=>?_) (λs k2 hU=>?_) (s0:=()) AV A4
   ·rw[CD hB,BH];have my:y∈l:=AK;let⟨ky,_,ey,hy⟩:=Yh<|hs y my
    let⟨oy,_,_⟩:=hy (by have:=hP y my;rw[ey] at this;exact this);have iy:AB l (B.length:Int)=some y:=Bk (C:=D++x::C) (by rw[hA,hB];simp);have s1:=(hs x mx).2.1;have s2:=(hs y my).2.1;refine A6 (Bk hA)<|A6 iy<|Aq (agR Ix ox oy A4) λr hr=>Ad (λhc=>AU<| .inr ⟨f0,.inl ⟨rfl,λc=>?_⟩⟩) λhc=>A6 (C4 hB A4)<|FE ()<|QN hU λc=>?_
    ·rw[hA] at c;exact(LM.1 c).2.2 y (at_mem hB) x DT<|hr.1 hc
    ·grind
   ·rw[CG,Ar];exact A6 (C4 hA A4) (next () (LM.2 ⟨hQ,SJ _ _,λy my z mz=>by rw[Cl.1 mz];exact hU y my⟩))
  ·rw[CG,Ar];exact AU<| .inr ⟨f0,.inr ⟨rfl,hQ⟩⟩
theorem aiO{l:A3 D9}(hl:l.length<=64)(hs:∀x∈l,Small x):Yd (λr=>XK (λx=>(Jh x).getD 0) l r.2/\(r.2=0->∃W:A3 (D9×A3 CC),l=W.map (·.1)/\r.1=W.map (·.2)/\∀w∈W,OkB w.1 w.2/\NK w.1=some (w.2,0))) (MC l):=by
 unfold MC;rw[Bu (show¬(64:Int)<(l.length:Int) by omega),Ar];refine C9 l (λ(t:A3 (A3 CC)) i=>(t,i)) (λA t=>(∀y∈A,(Jh y).getD 0=0)/\∃W:A3 (D9×A3 CC),A=W.map (·.1)/\t=W.map (·.2)/\∀w∈W,OkB w.1 w.2/\NK w.1=some (w.2,0)) (λA x C t k hA hP next=>?_) (λt k hP=>?_) (s0:=[]) ⟨AV,[],rfl,rfl,AV⟩ A4
 ·dsimp;rw[CD hA,BH];have al:=Cn hA;let⟨kx,e1,e2,hx⟩:=Yh<|hs x<|at_mem hA
  have ge:(Jh x).getD 0=kx.2:=by rw[e2];rfl
  let⟨h0,W,w1,w2,w3⟩:=hP;have tl:t.length=A.length:=AK;refine A6 (Bk hA)<|A6 e1<|Ad (λhc=>AU ⟨.inl ?_,λc=>?_⟩) λhc=>A6 (app_1 A4 A4)<|A6 (C4 hA A4)<|next _ ?_
  ·have hx:(Jh x).getD 0≠0:=by rw[ge];simpa using hc
   have:=oJ (f:=λx=>(Jh x).getD 0) (C:=C) hx h0;rw[hA,this];exact⟨hx,ge.symm⟩
  ·grind
  ·have z:kx.2=0:=by simpa using hc
   exact⟨QN h0<|ge.trans z,W++[(x,kx.1)],by rw[w1];simp,by rw[w2];simp,QN w3 ⟨hx z,by rw[e1,<-z]⟩⟩
 ·dsimp;rw[CG,Ar];let⟨h0,W,w1,w2,w3⟩:=hP;have f0:=p8 (f:=λx=>(Jh x).getD 0) h0;have wl:W.length<=64:=AK;rw[w2];have ml:(W.map (·.2)).length=W.length:=BY _;refine C9 W (λ(_:Unit) i=>i) (λA _=>(A.map (·.1)).Pairwise X2) (λA x C s k hA hQ next=>?_) (λs k hQ=>?_) (s0:=()) List.Pairwise.nil A4
  ·rw[ml,CD hA,BH];have al:=Cn hA;have mx:=at_mem hA;let⟨ox,Ix,fx⟩:=(w3 x mx).1;have sb:C7 (W.map (·.2)) 0 (A.length:Int)=some (A.map (·.2)):=by rw[E6 A4 A4 (by rw[ml];omega),hA];simp
   refine A6 (Jq _ hA)<|A6 sb ?_
   have ma:(A.map (·.2)).length=A.length:=BY _;refine C9 A (λ(_:Unit) i=>i) (λB _=>∀y∈B,X2 y.1 x.1) (λB y D s k2 hB hU FE=>?_) (λs k2 hU=>?_) (s0:=()) AV A4
   ·rw[ma,CD hB,BH];have my:y∈W:=AK;let⟨oy,Iy,fy⟩:=(w3 y my).1;have s1:=(hs x.1 (by rw[w1];exact BR.2 ⟨x,mx,rfl⟩)).2.1;have s2:=(hs y.1 (by rw[w1];exact BR.2 ⟨y,my,rfl⟩)).2.1;have ly:=Iy.len;rw[BY] at ly;have fw:∀k∈y.2.map (·.1),k∈y.1.map rh:=λk mk=>by obtain⟨f,mf,rfl⟩:=BR.1 mk;exact(Iy.EZ f mf).1
    have Fm:Iw 14 (y.2.map (·.1)++x.1.map rh):=λg mg=>(Bs.1 mg).elim (λm=>Bp.Fm oy g<|fw g m)<|Bp.Fm ox g
    have pr:∀g∈y.2.map (·.1)++x.1.map rh,Hu g.1:=λg mg=>(Bs.1 mg).elim (λm=>Bp.Om oy g<|fw g m)<|Bp.Om ox g
    refine A6 (Jq _ hB)<|Aq (Yd.vL A4) λH eH=>?_
    rw[eH];refine Aq (Yd.dc Ix Fm A4 DC (λh mh=>(pr h<|Ij _ mh).nz) λa ma b mb=>Tg (pr a ma)<|pr b mb) λr hr=>?_
    have hr:r.2=true↔HM (y.1.map rh++x.1.map rh):=by
     rcases hr with⟨e,N,n1,_,n3⟩|⟨e,hn⟩
     ·refine⟨λ_=>?_,λ_=>e⟩;let⟨q,hq⟩:=n3.int;exact⟨q,λg mg=>hq g<|(n1 g).2<|(Bs.1 mg).imp (fy g) id⟩
     ·refine⟨λc=>(by rw[e] at c;cases c),λ⟨q,hq⟩=>absurd ⟨q,λg mg=>hq g ?_⟩ hn⟩;exact Bs.2<|(Bs.1 mg).imp (fw g) id
    refine Ad (λhc=>AU ⟨.inr ⟨f0,.inl ⟨rfl,λc=>?_⟩⟩,λc=>by cases c⟩) λhc=>A6 (C4 hB A4)<|FE ()<|QN hU λc=>?_
    ·rw[w1,hA,G9,MO] at c;exact(LM.1 c).2.2 y.1 (BR.2 ⟨y,at_mem hB,rfl⟩) x.1 DT<|hr.1 hc
    ·grind
   ·rw[ma,CG,Ar];refine A6 (C4 hA A4)<|next () ?_
    rw[G9];refine LM.2 ⟨hQ,SJ _ _,λy my z mz=>?_⟩;obtain⟨w,mw,rfl⟩:=BR.1 my;rw[Cl.1 mz];exact hU w mw
  ·rw[ml,CG,Ar];exact AU ⟨.inr ⟨f0,.inr ⟨rfl,by rw[w1];exact hQ⟩⟩,λ_=>⟨W,w1,rfl,w3⟩⟩
def af6{l:D9}{n k:Nat}(hn:n<=100000000):Yd (λb=>b=true->l.length<=n/\∀h∈l,h.2.length<=k) (bp l (n:Int) (k:Int)):=by
 unfold bp;refine Ad (λ_=>AU λc=>by cases c) λhc=>?_
 have hl:l.length<=n:=by have:=Bg hc;omega
 refine C9 l (λ(_:Unit) i=>i) (λA _=>∀h∈A,h.2.length<=k) (λA x C u k hA hP next=>?_) (λu k hP=>?_) (s0:=()) AV A4
 ·rw[CD hA,BH];refine A6 (Bk hA) (Ad (λ_=>AU λc=>by cases c) λhc=>A6 (C4 hA A4)<|next ()<|QN hP ?_);have:=Bg hc;omega
 ·rw[CG,Ar];exact AU λ_=>⟨hl,hP⟩
def fX{l:A3 D9}{n:Nat}(hn:n<=100000000):Yd (λb=>b=true->l.length<=n/\∀x∈l,x.length<=10/\∀h∈x,h.2.length<=14) (VO l (n:Int)):=by
 unfold VO;refine Ad (λ_=>AU λc=>by cases c) λhc=>?_
 have hl:l.length<=n:=by have:=Bg hc;omega
 refine C9 l (λ(_:Unit) i=>i) (λA _=>∀x∈A,x.length<=10/\∀h∈x,h.2.length<=14) (λA x C u k hA hP next=>?_) (λu k hP=>?_) (s0:=()) AV A4
 ·rw[CD hA,BH];refine A6 (Bk hA) (Aq (af6 (n:=10) (k:=14) A4) λb hb=>Ad (λ_=>AU λc=>by cases c) λhc=>A6 (C4 hA A4)<|next ()<|QN hP<|hb ?_);simpa using hc
 ·rw[CG,Ar];exact AU λ_=>⟨hl,hP⟩
end
section
variable{s:List UInt8}(h:s.length<=100)
include h
theorem yO:Yd (λk=>0<=k/\k<=(s.length:Int)) (L5 s):=by
 unfold L5;refine C9 s (λ(_:Unit) i=>i) (λA _=>True) (λA x C u k hA _ next=>?_) (λu k _=>?_) (s0:=()) trivial A4
 ·have al:=Cn hA;rw[CD hA,BH];exact A6 (Bk hA)<|Ad (λ_=>AU ⟨A4,A4⟩) λ_=>A6 (C4 hA A4)<|next () trivial
 ·rw[CG,Ar];exact AU ⟨A4,A4⟩
theorem aob:Yd (λr=>r.length<=100) (TY s):=by unfold TY;exact Aq (yO h) λk hk=>A6 (E6 A4 A4 A4) (AU (by rw[Ii,E1];omega))
theorem apd:Yd (λr=>r.length<=100) (TZ s):=by
 unfold TZ;refine Aq (yO h) λk hk=>Ad (λ_=>AU Lg) λhc=>?_
 have:=Bg hc;exact A6 BC (A6 (E6 A4 A4 A4) (AU (by rw[Ii,E1];omega)))
theorem aq4:Yd (λ_=>True) (Ta s):=by
 unfold Ta Ji;have fin:∀r:Int,(r<0->0<s.length)->Yd (λ_=>True) (cond (decide<|r<0) (bd (C7 s 1 (s.length:Int)) λx4=>some x4)<|some s):=λr hr=>Ad (λhc=>by
  have:=hr<|As hc
  exact A6 (E6 A4 A4 A4)<|AU trivial) λ_=>AU trivial
 refine Aq (S:=λr=>r<0->0<s.length) (Ad (λ_=>AU λc=>absurd c<|Int.lt_irrefl 0) λ_=>?_) fin;cases s with
 |nil=>exact AU λc=>absurd c Lg
 |cons x t=>rw[B5 (show(0:Int)<((x::t).length:Int) by simp),show gd true true=true from rfl,Ck rfl];exact A6 (x:=x) rfl (Ad (λ_=>AU λ_=>by simp) λ_=>AU λ_=>by simp)
end
def jQ{α ρ:Type}{R:ρ->Prop}{S:α->Prop}{g:Bool}{d:α}{e:AA α}{K:α->AA ρ}(he:Yd S e)(hd:S d)(k:∀x,S x->Yd R (K x)):Yd R (Trn.Au g d e K):=by let⟨x,e,hx⟩:=he;exact GO (λ_=>⟨x,e,k x hx⟩) λ_=>k d hd
def ap6{s:AD}(h:s.length<=14):Yd (λ_=>True) (eS s 5):=by
 let⟨c,_,c2,_⟩:=xG h;unfold eS;refine A6 (x:=10) rfl<|A6 (x:=12) rfl ?_
 exact jQ (S:=λ_=>True) ⟨c,c2,trivial⟩ trivial λ_ _=>jQ (aob A4) Lg λ_ h7=>jQ (aq4 h7) trivial λ_ _=>jQ (apd A4) Lg λ_ _=>AU trivial
def ahf{h:Bc}(hi:in3 h.1)(hl:h.2.length<=14):Yd (λ_=>True) (dC h 999 5):=by
 let⟨c,_,c2,_⟩:=uW hi hl;let⟨f,f1,_⟩:=ap6 hl;unfold dC;refine A6 c2 ?_;have fin:∀x3:Bool,Yd (λ_=>True) (cond ((!decide (c=0))||(!x3)) (some false) (B7 (λk7 (s6:Int)=>cond (decide<|s6<3) (bd (AB ([h.1.1,h.1.2.1,h.1.2.2]:A3 Int) s6) λx9=>bd (AH<|0-999) λB4=>Au (gd (decide<|x9<B4) false) (0) (AB ([h.1.1,h.1.2.1,h.1.2.2]:A3 Int) s6) λBo=>cond (((decide<|x9<B4)||(decide<|999<Bo))) (some false) (bd (AH<|s6+1) λBV=>k7 BV)) (some true)) 0)):=λx3=>Ad (λ_=>AU trivial) λ_=>by
  refine C9 [h.1.1,h.1.2.1,h.1.2.2] (λ(_:Unit) i=>i) (λB _=>True) (λB x D t k2 hB hQ next=>?_) (λt k2 hQ=>?_) (s0:=()) trivial AV
  ·have bl:=Cn hB;rw[show [h.1.1,h.1.2.1,h.1.2.2].length=3 from rfl] at bl;rw[B5 (show(B.length:Int)<3 by omega),BH];refine A6 (Bk hB)<|A6 (x:= -999) rfl ?_
   have nx:=A6 (K:=λBV=>k2 BV) (C4 hB AV)<|next () trivial
   exact GO (λ_=>⟨x,Bk hB,Ad (λ_=>AU trivial) λ_=>nx⟩) λ_=>Ad (λ_=>AU trivial) λ_=>nx
  ·rw[show decide ((([h.1.1,h.1.2.1,h.1.2.2].length:Nat):Int)<3)=false from rfl,Ar];exact AU trivial
 exact GO (λ_=>⟨f,f1,fin f⟩) λ_=>fin false
def ajJ{l:A3 D9}{n:Nat}(hn:n<=60)(hl:l.length<=n)(hs:∀x∈l,Small x):Yd (λ_=>True) (eQ l (n:Int) 5):=by
 unfold eQ;refine Aq (fX A4) λb hb=>Ad (λ_=>AU trivial) λ_=>?_
 refine C9 l (λ(_:Unit) i=>i) (λA _=>True) (λA x C s k hA hP next=>?_) (λs k hP=>?_) (s0:=()) trivial A4
 ·rw[CD hA,BH];let⟨h1,h2,h3⟩:=hs x<|at_mem hA
  refine C9 x (λ(_:Unit) i=>i) (λB _=>True) (λB y D s k2 hB hU FE=>?_) (λs k2 hU=>?_) (s0:=()) trivial A4
  ·refine A6 (Bk hA) ?_;rw[CD hB,BH];exact A6 (Bk hA)<|A6 (Bk hB)<|Aq (ahf (h1 y<|at_mem hB)<|h3 y<|at_mem hB) λr _=>Ad (λ_=>AU trivial) λ_=>A6 (C4 hB A4)<|FE () trivial
  ·refine A6 (Bk hA) ?_;rw[CG,Ar];exact A6 (C4 hA A4)<|next () trivial
 ·rw[CG,Ar];exact Aq (mX A4 hs) λ_ _=>AU trivial
def zB{l:A3 D9}{n:Nat}(hn:n<=60)(hi:∀x∈l,∀h∈x,in3 h.1):Yd (λr=>r=false->64<l.length\/(l.length<=n/\∀x∈l,Small x)) (Y9 l (n:Int)):=by
 unfold Y9;refine Ad (λhc=>?_) λhc=>?_
 ·have hl:=As hc;have big:64<l.length:=A4;refine GO (λ_=>⟨_,E6 A4 A4 A4,?_⟩) λ_=>?_
  ·refine GO (λ_=>?_) λ_=>AU λ_=> .inl big
   let⟨r,r1,_⟩:=fX (l:=(l.take (1:Int).toNat).drop (0:Int).toNat) (n:=1) A4;exact⟨r,r1,AU λ_=> .inl big⟩
  ·refine GO (λ_=>?_) λ_=>AU λ_=> .inl big
   let⟨r,r1,_⟩:=fX (l:=([]:A3 D9)) (n:=1) A4;exact⟨r,r1,AU λ_=> .inl big⟩
 ·refine Aq (fX A4) λb hb=>?_
  cases b with
  |false=>exact AU λc=>by cases c
  |true=>
   let⟨h3,hb⟩:=hb rfl;have hs:∀x∈l,Small x:=λx mx=>⟨hi x mx,hb x mx⟩
   let⟨v,v1,_⟩:=mX A4 hs;let⟨f,f1,_⟩:=ajJ hn h3 hs;refine GO (λ_=>⟨v,v1,?_⟩) λ_=>GO (λ_=>⟨f,f1,AU λ_=> .inr ⟨h3,hs⟩⟩) λ_=>AU λ_=> .inr ⟨h3,hs⟩
   exact GO (λ_=>⟨f,f1,AU λ_=> .inr ⟨h3,hs⟩⟩) λ_=>AU λ_=> .inr ⟨h3,hs⟩
def big(q:Rat):Bool:=decide (600<(B2 q.num.natAbs).length)||decide (600<(B2 q.den).length)
instance(a b:Q3):Decidable (HF a b):=by unfold HF;exact inferInstance
def Sl{α:Type}{b:Nat}{u v:A3 α}(hb:b<=1000)(h:u.length+v.length<=1000000000):BG b u v=some (u++v):=by unfold BG;have h1:(u.length+v.length)*b<=140737488355328:=Cu (HK h hb) A4;rw[B5 h1,B5 (show u.length+v.length<=9223372036854775807 by omega)];rfl
def avM{ρ:Type}{R:ρ->Prop}{r B D:A3 Q3}(e:r=B++D){l:A3 T3}{i:Int}{x:Q3}(ix:AB l i=some (C1 x))(hl:r.length<=1000000){K:A3 T3->AA ρ}(h:Yd R (K<|(B++x::D).map C1)):Yd R (Trn.bd (C7 (r.map C1) 0 (B.length:Int)) λBi=>Trn.bd (BG 48 ([]:A3 T3) Bi) λBr=>Trn.bd (AB l i) λC8=>Trn.bd (BG 48 Br [C8]) λCF=>Trn.bd (C7 (r.map C1) (B.length:Int) (r.length:Int)) λCo=>Trn.bd (BG 48 CF Co) K):=by
 subst e;rw[Dg] at hl;have m:((B++D).map C1).length=B.length+D.length:=AV;have s1:C7 ((B++D).map C1) 0 (B.length:Int)=some (B.map C1):=by rw[E6 A4 A4 A4];simp[G9,WG]
 have s2:C7 ((B++D).map C1) (B.length:Int) ((B++D).length:Int)=some (D.map C1):=by rw[E6 A4 DC (by rw[m];simp),Ce,Ce,Cz AV,G9];simp[Nf]
 refine A6 s1<|A6 (Sl A4 DC)<|A6 ix<|A6 (Sl A4 DC)<|A6 s2<|A6 (Sl A4 DC) ?_
 have:[]++B.map C1++[C1 x]++D.map C1=(B++x::D).map C1:=AV;rw[this];exact h
section
variable{n:Nat}(hn:n<=4000)
include hn
structure Rnd(f:H3)(C r:A3 Q3):Prop where
 ex:∃p s,r=p::s/\(∀x∈s,HF p x)/\s.Pairwise λx y=>0<CN f.1 p x y
 mem:∀z,z∈r↔z∈C
omit hn in
theorem Rnd.same {f:H3} {C r q:A3 Q3} (a:Rnd f C r) (b:Rnd f C q):r=q:=by
 obtain⟨⟨p,s,rfl,a1,a2⟩,a3⟩:=a;obtain⟨⟨o,t,rfl,b1,b2⟩,b3⟩:=b;have e:p=o:=by
  rcases Ao.1 ((b3 p).2<|(a3 p).1 DT) with e|m
  ·exact e
  ·rcases Ao.1 ((a3 o).2<|(b3 o).1 DT) with e|m'
   ·exact e.symm
   ·exact absurd (abE (a1 o m')<|b1 p m)<|S9 p
 subst e
 congr 1
 refine nv a2 b2 (λx _ y _ h k=>?_) λz=>?_
 ·have:CN f.1 p y x= -CN f.1 p x y:=by unfold CN AM Ag BD;grind
  grind
 ·have:=(a3 z).trans (b3 z).symm;rw[Ao,Ao] at this;constructor
  ·intro mz;exact(this.1<| .inr mz).resolve_left λe=>S9 p (by have:=a1 z mz;rw[e] at this;exact this)
  ·intro mz;exact(this.2<| .inr mz).resolve_left λe=>S9 p (by have:=b1 z mz;rw[e] at this;exact this)
end
section
variable{n:Nat}{l:D9}{S:A3 CC}{b:D9}{s:H6}{h:Bc}{M N:A3 H3}
theorem Rnd.len{f:H3}{C r:A3 Q3}(a:Rnd f C r):r.Nodup:=by obtain⟨⟨p,s,rfl,a1,a2⟩,_⟩:=a;refine iK.2 ⟨λm=>S9 p<|a1 p m,?_⟩;exact a2.imp λ{x y} h e=>by rw[e,OR] at h;exact absurd h AK
def abc:∀{l:A3 Bc},Asc l->l.Pairwise HN
 |[],_=>List.Pairwise.nil
 |[x],_=>SJ _ _
 |x::y::l,h=>by
  have ih:=abc (l:=y::l) λA a b C e=>h (x::A) a b C (by rw[e];rfl)
  have xy:HN x y:=h [] x y l rfl;refine JK.2 ⟨λz mz=>?_,ih⟩;rcases Ao.1 mz with e|m
  ·rw[e];exact xy
  ·exact Wj xy<|(JK.1 ih).1 z m
def agz(hs:Small l)(h:NK l=some (S,0)):OkB l S/\l.Pairwise HN:=by
 let⟨k,k1,_,k3⟩:=Yh hs;rw[h] at k1;cases k1;refine⟨k3 rfl,?_⟩;let⟨hi,l10,short⟩:=hs;let⟨c,c1,_,c3⟩:=tw (λh mh=>⟨hi h mh,short h mh⟩) A4;by_cases h0:c=0
 ·subst h0;let⟨k,e,k2⟩:=xD (c3 rfl) c1 A4;rw[h] at e;cases e;rcases k2 with⟨e,_⟩|⟨a,_⟩
  ·cases e
  ·exact abc a
 ·unfold NK at h;rw[Bu (show¬(32:Int)<(l.length:Int) by omega),Ar,c1] at h;have h:cond (!decide (c=0)) (some (([]:A3 CC),c)) _=some (S,0):=h;rw[Bu h0] at h;exact absurd (congrArg Prod.snd<|E9 h) h0
structure NI(l:D9)(S:A3 CC)(s:H6):Prop where
 ok:∀h∈l,Bp h
 I:CJ S (l.map rh)
 R:∃Z,RS s (l.map rh) Z
def agU(h:OkB l S)(hl:l.length<=50):Yd (λs=>NI l S s) (VC l):=(vO h.1 hl h.2.1).imp λs hs=>⟨h.1,h.2.1,hs⟩
def NI.mem(P:NI l S s)(h:Bc):h∈s.1↔h∈l/\rh h∈S.map (·.1):=by
 let⟨Z,R⟩:=P.R;constructor
 ·intro mh;have mr:rh h∈s.1.map rh:=BR.2 ⟨h,mh,rfl⟩;let⟨g,mg,e⟩:=BR.1 ((R.fac<|rh h).1 mr).1;rw[<-Pm (P.ok g mg) (R.ok h mh) e];exact⟨mg,by rw[e];exact(R.O6 P.I _).1 mr⟩
 ·rintro⟨mh,mf⟩;let⟨g,mg,e⟩:=BR.1<|(R.O6 P.I _).2 mf
  rw[<-Pm (R.ok g mg) (P.ok h mh) e];exact mg
def ain(P:NI l S s)(hl:l.length<=32):T9 S=some (s.1,0):=by
 let⟨r,e,r1,_,r3,r4⟩:=ane P.ok P.I hl;let⟨Z,R⟩:=P.R;have:r.1=s.1:=nv r3 R.GW (λx _ y _ a c=>WZ _<|Wj a c) λh=>by rw[r4,P.mem]
 rw[e,<-this,<-r1]
def ajR(P:NI l S s)(oh:Bp h)(hl:l.length<=31):∃r q,Mk S (rh h)=some r/\OG s h=some q/\((r.2=true/\q.2=true/\NI (h::l) r.1 q.1)\/(r.2=false/\q.2=false/\ ¬HM (rh h::l.map rh))):=by
 have o:∀g∈h::l,Bp g:=λg mg=>(Ao.1 mg).elim (λe=>by rw[e];exact oh)<|P.ok g
 have Fm:Iw 14 (rh h::l.map rh):=Bp.Fm o;have pr:∀g∈rh h::l.map rh,Hu g.1:=Bp.Om o;have ll:(l.map rh).length<=31:=by rw[BY];exact hl
 let⟨Z,R⟩:=P.R;let⟨r,r1,r2⟩:=Yd.nK P.I Fm A4 A4 oh.kH.nz λa ma b mb=>Tg (pr a ma)<|pr b mb
 let⟨q,q1,q2⟩:=wQ R P.I oh (Bp.Fm P.ok) (Bp.Om P.ok) ll;refine⟨r,q,r1,q1,?_⟩;rcases r2 with⟨e,I⟩|⟨e,n⟩<;>rcases q2 with⟨f,hZ,S',I'⟩|⟨f,m⟩
 ·exact .inl ⟨e,f,o,I,hZ⟩
 ·exact absurd I.int m
 ·exact absurd I'.int n
 ·exact .inr ⟨e,f,n⟩
def xN(h:∀k,k∈N↔k∈M)(p:Q3):Bt N p↔Bt M p:=⟨λv=>⟨λk mk=>v.1 k<|(h k).2 mk,λd hd=>v.2 d λk mk=>hd k<|(h k).1 mk⟩,λv=>⟨λk mk=>v.1 k<|(h k).1 mk,λd hd=>v.2 d λk mk=>hd k<|(h k).2 mk⟩⟩
def CJ.congr(I:CJ S M)(h:∀k,k∈N↔k∈M):CJ S N:=by
 refine⟨λd hd=>?_,?_,λk mk=>I.nz k<|(h k).1 mk,λa ma b mb=>I.norm a ((h a).1 ma) b<|(h b).1 mb,λf mf=>?_,I.RG,λp hp ht=>?_⟩
 ·obtain⟨k,mk,e⟩:=I.bdd d hd;exact⟨k,(h k).2 mk,e⟩
 ·obtain⟨o,ho⟩:=I.int;exact⟨o,λk mk=>ho k<|(h k).1 mk⟩
 ·obtain⟨a,b,c,d⟩:=I.EZ f mf;exact⟨(h _).2 a,b,c,λp=>by rw[d,xN h]⟩
 ·obtain⟨k,mk,t⟩:=ht;exact I.cover p (λg mg=>hp g<|(h g).2 mg) ⟨k,(h k).1 mk,t⟩
def RS.congr{Z:ZL}(R:RS s M Z)(h:∀k,k∈N↔k∈M):RS s N Z:=⟨R.ok,R.GW,λk=>by rw[R.fac,h],R.cor,R.on,R.nd,λp=>by rw[R.mem,xN h],R.HE⟩
def ag2(P:NI l S s)(ob:∀h∈b,Bp h)(hl:l.length+b.length<=32):∃r q,Mj S (b.map rh)=some r/\P9 s b=some q/\((r.2=true/\q.2=true/\NI (b++l) r.1 q.1/\HM (b.map rh++l.map rh))\/(r.2=false/\q.2=false/\ ¬HM (b.map rh++l.map rh))):=by
 have o:∀g∈b++l,Bp g:=λg mg=>(Bs.1 mg).elim (ob g)<|P.ok g
 have Fm:Iw 14 (b.map rh++l.map rh):=by rw[<-G9];exact Bp.Fm o
 have pr:∀g∈b.map rh++l.map rh,Hu g.1:=by rw[<-G9];exact Bp.Om o
 let⟨Z,R⟩:=P.R;let⟨r,r1,r2⟩:=Yd.dc P.I Fm A4 DC (λh mh=>(pr h<|Ij _ mh).nz) λa ma c mc=>Tg (pr a ma)<|pr c mc
 let⟨q,q1,q2⟩:=mE R P.I P.ok ob hl;refine⟨r,q,r1,q1,?_⟩;have at_:∀{N:A3 H3},(∀k,k∈N↔k∈b.map rh\/k∈l.map rh)->∀k,k∈(b++l).map rh↔k∈N:=λn k=>by rw[n,G9,Bs]
 have inn:∀{N:A3 H3} {T:A3 CC},(∀k,k∈N↔k∈b.map rh\/k∈l.map rh)->CJ T N->HM (b.map rh++l.map rh):=λn I=>by let⟨z,hz⟩:=I.int;exact⟨z,λg mg=>hz g<|(n g).2<|Bs.1 mg⟩
 rcases r2 with⟨e,N,n1,_,I1⟩|⟨e,n⟩<;>rcases q2 with⟨f,N',T,Z',m1,R1,J1⟩|⟨f,m⟩
 ·exact .inl ⟨e,f,⟨o,I1.congr<|at_ n1,Z',R1.congr<|at_ m1⟩,inn n1 I1⟩
 ·exact absurd (inn n1 I1) m
 ·exact absurd (inn m1 J1) n
 ·exact .inr ⟨e,f,n⟩
def aaw:∀{u t:AD},(∀x∈u,x≠47)->sp (u++t)=(u++(sp t).1,(sp t).2.1,(sp t).2.2)
 |[],t,_=>rfl
 |b::u,t,h=>by
  rw[SI];unfold sp;have:(b==47)=false:=Zd.2<|h b DT
  rw[this,Ar,aaw λx mx=>h x<|C2 _ mx];cases t<;>rfl
def nV{q:Rat}(h:bq q 14):MH (BW q)=some q:=by
 have e:BW q=bif decide (q.num<0) then 45::(B2 q.num.natAbs++F3 q) else B2 q.num.natAbs++F3 q:=by unfold BW Cd F3;cases decide (q.num<0)<;>cases decide (q.den=1)<;>simp
 have hl:=jO h A4;have tl:(F3 q).length<=15:=by
  unfold F3;cases decide (q.den=1)
  ·simp;omega
  ·simp
 let⟨n1,n2⟩:=Lk q.num.natAbs;let⟨d1,d2⟩:=Lk q.den;have sc:sp (B2 q.num.natAbs++F3 q)=(B2 q.num.natAbs,(bif decide (q.den=1) then [] else B2 q.den),!decide (q.den=1)):=by
  rw[aaw<|oK _];unfold F3;cases decide (q.den=1)
  ·show(B2 q.num.natAbs++[],B2 q.den,true)=_;rw[Ih];rfl
  ·show(B2 q.num.natAbs++[],[],false)=_;rw[Ih];rfl
 have rd:Ht (bif decide (q.num<0) then 45::B2 q.num.natAbs else B2 q.num.natAbs)=some q.num:=by
  cases hd:decide (q.num<0)
  ·have:=Bg hd;rw[Ar,Vm n1 A4,n2]
   congr 1;omega
  ·have:=As hd;rw[BH,yC n1 A4,n2]
   congr 1;omega
 rw[e];unfold MH;rw[pC (by rw[Dg];omega),sc];cases hd:decide (q.den=1)
 ·have h0:=Bg hd;have dn:=q.den_pos;let⟨r,m1,m2,m3⟩:=abA (a:=q.num) (d:=q.den) A4 q.reduced;have er:r=q:=Rat.ext m2 m3;show bd (Ht (bif decide (q.num<0) then 45::B2 q.num.natAbs else B2 q.num.natAbs)) _=_;rw[rd];show bd (Ht<|B2 q.den) _=_;rw[Vm d1 A4,d2];show bd (mkq q.num (q.den:Int)) _=_;rw[m1,er];rfl
 ·have h0:=As hd;show bd (Ht (bif decide (q.num<0) then 45::B2 q.num.natAbs else B2 q.num.natAbs)) _=_;rw[rd];show some (q.num:Rat)=some q
  congr 1
  exact Rat.ext (SD _) (by rw[U9,h0])
def Kk(h:Bc):Bc:=((-h.1.1,-h.1.2.1,-h.1.2.2),BW<| -rq h.2)
def p9{x:Int}(h:EY x=false):EY (-x)=false:=by have:=My h;unfold EY;rw[Bu A4,Bu A4];rfl
def Bp.GK(o:Bp h):Bp (Kk h):=by
 have b:=rC o.num.2.1;have e:rq (BW<| -rq h.2)= -rq h.2:=by show(MH<|BW<| -rq h.2).getD 0=_;rw[nV b];rfl
 refine⟨?_,p9 o.x,p9 o.y,p9 o.z,?_⟩
 ·show isNum (BW<| -rq h.2) (rq<|BW<| -rq h.2);rw[e];exact⟨rfl,b,nV b⟩
 ·show Nat.gcd (Nat.gcd (-h.1.1).natAbs (-h.1.2.1).natAbs) (-h.1.2.2).natAbs=1;rw[W9,W9,W9];exact o.g
def aoN(o:Bp h):rh (Kk h)=((-(rh h).1.1,-(rh h).1.2.1,-(rh h).1.2.2),-(rh h).2):=by
 have b:=rC o.num.2.1;have e:rq (BW<| -rq h.2)= -rq h.2:=by show(MH<|BW<| -rq h.2).getD 0=_;rw[nV b];rfl
 show(rn (-h.1.1,-h.1.2.1,-h.1.2.2),rq<|BW<| -rq h.2)=_;rw[e];unfold rn;rw[Rat.intCast_neg,Rat.intCast_neg,Rat.intCast_neg];rfl
def akT(o:Bp h):XQ (rh h)=some (rh<|Kk h):=by
 rw[aoN o];unfold XQ mG
 rfl
def amP(o:Bp h):cd h=some (Kk h):=by
 have a:=My o.x;have b:=My o.y;have c:=My o.z;have t:=o.txt;have n:=zu o.num.2.1 A4;refine GJ ?_;unfold cd;rw[t];refine A6 BC<|A6 BC<|A6 BC<|A6 n<|AU ?_
 unfold Kk;rw[iB,iB,iB]
abbrev PS:=D9×A3 CC×H6
def Gg(n:Nat)(v:PS):Prop:=NI v.1 v.2.1 v.2.2/\v.1.length<=n
def Gg.mono{m:Nat}{v:PS}(h:Gg m v)(hn:m<=n):Gg n v:=⟨h.1,Cu h.2 hn⟩
def noR:H6×Bool:=(([],[],[]),false)
def Lh(v:PS)(h:Bc):A3 CC×Bool:=(Mk v.2.1<|rh h).getD ([],false)
def clR(v:PS)(h:Bc):H6×Bool:=(OG v.2.2 h).getD noR
def stp(v:PS)(h:Bc):PS:=(h::v.1,(Lh v h).1,(clR v h).1)
theorem y6{v:PS}(P:Gg n v)(hn:n<=31)(oh:Bp h):Mk v.2.1 (rh h)=some (Lh v h)/\OG v.2.2 h=some (clR v h)/\(Lh v h).2=(clR v h).2/\((Lh v h).2=true->Gg (n+1) (stp v h))/\(HM (rh h::v.1.map rh)->(Lh v h).2=true):=by
 let⟨r,q,e1,e2,hr⟩:=ajR P.1 oh (by have:=P.2;omega);have w:Lh v h=r:=by unfold Lh;rw[e1];rfl
 have u:clR v h=q:=by unfold clR;rw[e2];rfl
 refine⟨by rw[w];exact e1,by rw[u];exact e2,?_,?_,?_⟩
 ·grind
 ·intro c;rw[w] at c;rcases hr with⟨_,_,p⟩|⟨a,_⟩
  ·refine⟨?_,by show v.1.length+1<=n+1;have:=P.2;omega⟩;show NI (h::v.1) (Lh v h).1 (clR v h).1;rw[w,u];exact p
  ·grind
 ·grind
def pce(v:PS)(h:Bc):A3 PS:=bif (Lh v<|Kk h).2 then [stp v<|Kk h] else []
def I6:PS×A3 PS->Bc->PS×A3 PS:=λt h=>(stp t.1 h,t.2++pce t.1 h)
def kW(v:PS)(b:D9):A3 CC×Bool:=(Mj v.2.1<|b.map rh).getD ([],false)
def pcs(v:PS)(b:D9):A3 PS:=bif (kW v b).2 then(b.foldl I6 (v,[])).2 else [v]
structure GoP(n:Nat)(l:D9)(A:D9)(t:PS×A3 PS):Prop where
 now:Gg (n+A.length) t.1
 mem:∀k,k∈t.1.1↔k∈A\/k∈l
 out:∀v∈t.2,Gg (n+A.length) v
 len:t.2.length<=A.length
theorem p7{A C:D9}{x:Bc}{t:PS×A3 PS}(h:b=A++x::C)(ob:∀h∈b,Bp h)(hn:n+b.length<=31)(hi:HM (b.map rh++l.map rh))(G:GoP n l A t):Mk t.1.2.1 (rh<|Kk x)=some (Lh t.1<|Kk x)/\OG t.1.2.2 (Kk x)=some (clR t.1<|Kk x)/\(Lh t.1<|Kk x).2=(clR t.1<|Kk x).2/\
  Mk t.1.2.1 (rh x)=some (Lh t.1 x)/\OG t.1.2.2 x=some (clR t.1 x)/\(clR t.1 x).2=true/\GoP n l (A++[x]) (I6 t x):=by
 have al:=Cn h;have mx:=at_mem h;let⟨a1,a2,a3,a4,_⟩:=y6 G.now A4 (ob x mx).GK;let⟨b1,b2,b3,b4,b5⟩:=y6 G.now A4<|ob x mx
 have inn:HM (rh x::t.1.1.map rh):=by
  let⟨o,ho⟩:=hi;refine⟨o,λk mk=>ho k<|Bs.2 ?_⟩;rcases Ao.1 mk with e|mk
  ·grind
  ·obtain⟨g,mg,rfl⟩:=BR.1 mk;rcases(G.mem g).1 mg with m|m
   ·grind
   ·grind
 have bt:=b5 inn;have e:n+(A++[x]).length=n+A.length+1:=AK;refine⟨a1,a2,a3,b1,b2,by rw[<-b3];exact bt,⟨by rw[e];exact b4 bt,λk=>?_,λv mv=>?_,?_⟩⟩
 ·show k∈x::t.1.1↔_;rw[Ao,G.mem,Bs,Cl]
  grind
 ·rw[e];rcases Bs.1 mv with m|m
  ·exact(G.out v m).mono A4
  ·unfold pce at m;cases hc:(Lh t.1<|Kk x).2
   ·grind
   ·grind
 ·show(t.2++pce t.1 x).length<=_;have:(pce t.1 x).length<=1:=by unfold pce;cases(Lh t.1<|Kk x).2<;>simp
  have:=G.len;rw[Dg,Dg,IE];omega
theorem eN{v:PS}(P:Gg n v)(ob:∀h∈b,Bp h)(hn:n+b.length<=31):TH v.2.1 (b.map rh)=some ((pcs v b).map (·.2.1))/\TE v.2.2 b=some ((pcs v b).map (·.2.2))/\(∀w∈pcs v b,Gg (n+b.length) w)/\(pcs v b).length<=b.length+1:=by
 let⟨r,q,e1,e2,hr⟩:=ag2 P.1 ob (by have:=P.2;omega);have w:kW v b=r:=by unfold kW;rw[e1];rfl
 rcases hr with⟨r2,q2,_,hi⟩|⟨r2,q2,_⟩
 ·have pe:pcs v b=(b.foldl I6 (v,[])).2:=by unfold pcs;rw[w,r2];rfl
  have ml:(b.map rh).length=b.length:=BY _;have G0:GoP n v.1 [] (v,[]):=⟨P,AV,AV,AV⟩;have k1:Yd (λs=>s=(pcs v b).map (·.2.1)) (TH v.2.1<|b.map rh):=by
   unfold TH;refine A6 e1 ?_;rw[r2,Qd,Ar,ml];refine C9 b (λ(s:A3 CC×A3 (A3 CC)) i=>(s.1,s.2,i)) (λA s=>GoP n v.1 A (A.foldl I6 (v,[]))/\s.1=(A.foldl I6 (v,[])).1.2.1/\s.2=(A.foldl I6 (v,[])).2.map (·.2.1)) (λA x C s k hA hP next=>?_) (λs k hP=>?_) (s0:=(v.2.1,[])) ⟨G0,rfl,rfl⟩ A4
   ·dsimp;rw[CD hA,BH];have al:=Cn hA;let⟨G,s1,s2⟩:=hP;let⟨a1,a2,a3,b1,b2,b3,G'⟩:=p7 hA ob hn hi G;have gl:=G.len;have fe:(A++[x]).foldl I6 (v,[])=I6 (A.foldl I6 (v,[])) x:=AK;rw[s1,s2]
    generalize A.foldl I6 (v,[])=t at*
    refine A6 (Jq rh hA)<|A6 (akT<|ob x<|at_mem hA)<|A6 a1 ?_
    refine DJ (λu:A3 (A3 CC)=>u=(I6 t x).2.map (·.2.1)) (λu hu=>A6 b1 (A6 (C4 hA A4) (next (_,_) ⟨by rw[fe];exact G',by rw[fe];rfl,by rw[fe];exact hu⟩))) λk14 Bx=>?_
    have go2:(I6 t x).2=t.2++pce t.1 x:=rfl;cases hc:(Lh t.1<|Kk x).2
    ·refine Bx _ ?_;rw[go2];unfold pce;rw[hc];simp
    ·refine A6 (app_1 A4 (by rw[BY];omega)) (Bx _ ?_);rw[go2];unfold pce;rw[hc];simp[stp]
   ·dsimp;rw[CG,Ar];exact AU (by rw[pe];exact hP.2.2)
  have k2:Yd (λs=>s=(pcs v b).map (·.2.2)) (TE v.2.2 b):=by
   unfold TE;refine A6 e2 ?_;rw[q2,Qd,Ar];refine C9 b (λ(s:H6×A3 H6) i=>(s.1,s.2,true,i)) (λA s=>GoP n v.1 A (A.foldl I6 (v,[]))/\s.1=(A.foldl I6 (v,[])).1.2.2/\s.2=(A.foldl I6 (v,[])).2.map (·.2.2)) (λA x C s k hA hP next=>?_) (λs k hP=>?_) (s0:=(v.2.2,[])) ⟨G0,rfl,rfl⟩ A4
   ·dsimp;rw[CD hA,Lt,BH];have al:=Cn hA;let⟨G,s1,s2⟩:=hP;let⟨a1,a2,a3,b1,b2,b3,G'⟩:=p7 hA ob hn hi G;have gl:=G.len;have fe:(A++[x]).foldl I6 (v,[])=I6 (A.foldl I6 (v,[])) x:=AK;rw[s1,s2]
    generalize A.foldl I6 (v,[])=t at*
    refine A6 (Bk hA)<|A6 (amP<|ob x<|at_mem hA)<|A6 a2 ?_
    refine DJ (λu:A3 H6=>u=(I6 t x).2.map (·.2.2)) (λu hu=>A6 (Bk hA) (A6 b2 (A6 (C4 hA A4) (by
     have nx:=next ((clR t.1 x).1,u) ⟨by rw[fe];exact G',by rw[fe];rfl,by rw[fe];exact hu⟩
     rw[b3];exact nx)))) λk14 Bx=>?_
    have go2:(I6 t x).2=t.2++pce t.1 x:=rfl;rw[<-a3];cases hc:(Lh t.1<|Kk x).2
    ·refine Bx _ ?_;rw[go2];unfold pce;rw[hc];simp
    ·refine A6 (app_1 A4 (by rw[BY];omega)) (Bx _ ?_);rw[go2];unfold pce;rw[hc];simp[stp]
   ·dsimp;rw[CG,Qe,Ar];exact AU (by rw[pe];exact hP.2.2)
  obtain⟨u,u1,rfl⟩:=k1;obtain⟨z,z1,rfl⟩:=k2;have GE:∀(C A:D9),b=A++C->GoP n v.1 A (A.foldl I6 (v,[]))->GoP n v.1 b (b.foldl I6 (v,[])):=λC=>by
   induction C with
   |nil=>intro A e G;rw[Ih] at e;rw[e];exact G
   |cons x C ih=>intro A e G;refine ih (A++[x]) (by rw[e,Hm];rfl) ?_;rw[ZZ];exact(p7 e ob hn hi G).2.2.2.2.2.2
  have G:=GE b [] rfl G0;exact⟨u1,z1,by rw[pe];exact G.out,by rw[pe];have:=G.len;omega⟩
 ·have pe:pcs v b=[v]:=by unfold pcs;rw[w,r2];rfl
  rw[pe];refine⟨?_,?_,λu mu=>?_,AV⟩
  ·unfold TH;rw[e1,Cm,r2];rfl
  ·unfold TE;rw[e2,Cm,q2];rfl
  ·rw[Cl.1 mu];exact P.mono A4
structure Sd(l:A3 D9)(V:A3 PS):Prop where
 eq:l=V.map (·.1)
 ok:∀v∈V,OkB v.1 v.2.1/\v.1.Pairwise HN/\v.1.length<=10
 pr:∀v∈V,Gg 10 v
def Sd.okh{l:A3 D9}{V:A3 PS}(s:Sd l V):∀b∈l,(∀h∈b,Bp h)/\b.length<=10:=λb mb=>by rw[s.eq] at mb;obtain⟨v,mv,rfl⟩:=BR.1 mb;exact⟨(s.ok v mv).1.1,(s.ok v mv).2.2⟩
def Sd.len{l:A3 D9}{V:A3 PS}(s:Sd l V):l.length=V.length:=by rw[s.eq,BY]
theorem ahD{l:A3 D9}{W:A3 (D9×A3 CC)}(e:l=W.map (·.1))(hW:∀w∈W,OkB w.1 w.2/\NK w.1=some (w.2,0))(hs:∀b∈l,Small b)(hl:l.length<=60):∃V,Sd l V/\OC l=some (V.map (·.2.2))/\W.map (·.2)=V.map (·.2.1):=by
 have key:Yd (λr=>∃V:A3 PS,Sd l V/\r=V.map (·.2.2)/\W.map (·.2)=V.map (·.2.1)) (OC l):=by
  unfold OC;have wl:l.length=W.length:=AK;rw[wl];refine C9 W (λ(s:A3 H6) i=>(s,i)) (λA s=>∃V:A3 PS,Sd (A.map (·.1)) V/\s=V.map (·.2.2)/\A.map (·.2)=V.map (·.2.1)) (λA w C s k hA hP next=>?_) (λs k hP=>?_) (s0:=[]) ⟨[],⟨rfl,AV,AV⟩,rfl,rfl⟩ A4
  ·dsimp;rw[CD hA,BH];have al:=Cn hA;obtain⟨V,sd,rfl,v2⟩:=hP;have mw:=at_mem hA;let⟨o,c⟩:=hW w mw;have sm:=hs w.1 (by rw[e];exact BR.2 ⟨w,mw,rfl⟩);let⟨_,GW⟩:=agz sm c;have vl:=sd.len;rw[BY] at vl;have ix:AB l (A.length:Int)=some w.1:=by rw[e];exact Jq (·.1) hA
   refine A6 ix (Aq (agU o (by have:=sm.2.1;omega)) λs P=>A6 (app_1 A4 (by rw[BY];omega)) (A6 (C4 hA A4) (next _ ⟨V++[(w.1,w.2,s)],⟨?_,QN sd.ok ⟨o,GW,sm.2.1⟩,QN sd.pr ⟨P,sm.2.1⟩⟩,AV,by simp[v2]⟩)));rw[G9,G9,sd.eq];rfl
  ·dsimp;rw[CG,Ar];let⟨V,sd,h⟩:=hP;exact AU ⟨V,by rw[e];exact sd,h⟩
 obtain⟨r,e1,V,sd,rfl,e2⟩:=key;exact⟨V,sd,e1,e2⟩
def Ir(V:A3 PS)(b:D9):A3 PS:=V.flatMap λv=>pcs v b
def pK{V:A3 PS}(P:∀v∈V,Gg n v)(ob:(∀h∈b,Bp h)/\b.length<=10)(hn:n<=21):(∀v∈Ir V b,Gg (n+10) v)/\(Ir V b).length<=V.length*11:=by
 constructor
 ·intro v mv;let⟨u,mu,m⟩:=Lx.1 mv;exact((eN (P u mu) ob.1 (by have:=ob.2;omega)).2.2.1 v m).mono (by have:=ob.2;omega)
 ·exact SM λu mu=>Cu (eN (P u mu) ob.1 (by have:=ob.2;omega)).2.2.2 (by have:=ob.2;omega)
theorem aij{V:A3 PS}(P:∀v∈V,Gg n v)(ob:(∀h∈b,Bp h)/\b.length<=10)(hn:n<=21)(hl:V.length<=10000){ρ:Type}{R:ρ->Prop}{K:A3 (A3 CC)->AA ρ}(h:Yd R (K<|(Ir V b).map (·.2.1))):Yd R (B7 (λk7 (s6:A3 (A3 CC)×Int)=>cond (decide<|s6.2<((V.map (·.2.1)).length:Int)) (Trn.bd (AB (V.map (·.2.1)) s6.2) λx9=>Trn.bd (VR b) λB4=>Trn.bd (TH x9 B4) λBo=>Trn.bd (BG 24 s6.1 Bo) λBb=>Trn.bd (AH<|s6.2+1) λBi=>k7 (Bb,Bi)) (K s6.1)) ([],0)):=by
 rw[BY];refine C9 V (λ(s:A3 (A3 CC)) i=>(s,i)) (λA s=>s=(Ir A b).map (·.2.1)) (λA v C s k hA hP next=>?_) (λs k hP=>?_) (s0:=[]) rfl A4
 ·dsimp;rw[CD hA,BH];have al:=Cn hA;let⟨p1,_,_,p4⟩:=eN (P v<|at_mem hA) ob.1 (by have:=ob.2;omega);have wl:=(pK (V:=A) (λu mu=>P u (by rw[hA];exact Ij _ mu)) ob hn).2;have:=ob.2;refine A6 (Jq (λv:PS=>v.2.1) hA) (A6 (zy ob.1 A4) (A6 p1 (A6 (Sl A4 (by rw[hP,BY,BY];omega))<|A6 (C4 hA A4)<|next _ ?_)));rw[hP];unfold Ir;rw[Zb,G9];simp
 ·grind
theorem aid{V:A3 PS}(P:∀v∈V,Gg n v){bl:A3 D9}{i:Int}(ib:AB bl i=some b)(ob:(∀h∈b,Bp h)/\b.length<=10)(hn:n<=21)(hl:V.length<=10000){ρ:Type}{R:ρ->Prop}{K:A3 H6->AA ρ}(h:Yd R (K<|(Ir V b).map (·.2.2))):Yd R (B7 (λk7 (s6:A3 H6×Int)=>cond (decide<|s6.2<((V.map (·.2.2)).length:Int)) (Trn.bd (AB (V.map (·.2.2)) s6.2) λx9=>Trn.bd (AB bl i) λB4=>Trn.bd (TE x9 B4) λBo=>Trn.bd (BG 72 s6.1 Bo) λBb=>Trn.bd (AH<|s6.2+1) λBi=>k7 (Bb,Bi)) (K s6.1)) ([],0)):=by
 rw[BY];refine C9 V (λ(s:A3 H6) i=>(s,i)) (λA s=>s=(Ir A b).map (·.2.2)) (λA v C s k hA hP next=>?_) (λs k hP=>?_) (s0:=[]) rfl A4
 ·dsimp;rw[CD hA,BH];have al:=Cn hA;let⟨_,p1,_,p4⟩:=eN (P v<|at_mem hA) ob.1 (by have:=ob.2;omega);have wl:=(pK (V:=A) (λu mu=>P u (by rw[hA];exact Ij _ mu)) ob hn).2;have:=ob.2;refine A6 (Jq (λv:PS=>v.2.2) hA) (A6 ib (A6 p1 (A6 (Sl A4 (by rw[hP,BY,BY];omega))<|A6 (C4 hA A4)<|next _ ?_)));rw[hP];unfold Ir;rw[Zb,G9];simp
 ·grind
def xd{V:A3 PS}(P:∀v∈V,Gg n v)(hn:n<=31)(hl:V.length<=10000):Y0 (V.map (·.2.2))=some (V.map (·.2.2.1)):=by
 refine GJ ?_;unfold Y0;rw[BY];refine C9 V (λ(s:A3 D9) i=>(s,i)) (λA s=>s=A.map (·.2.2.1)) (λA v C s k hA hP next=>?_) (λs k hP=>?_) (s0:=[]) rfl A4
 ·dsimp only;rw[CD hA,BH];have al:=Cn hA;let⟨⟨_,_,_,R⟩,p2⟩:=P v<|at_mem hA
  have rl:=R.len;rw[BY] at rl;exact A6 (Jq (λv:PS=>v.2.2) hA) (A6 (Sl A4 DC) (A6 (app_1 A4 (by rw[hP,BY];omega)) (A6 (C4 hA A4) (next _ (by rw[hP];simp)))))
 ·dsimp only;rw[CG,Ar];exact AU hP
def eh{V:A3 PS}(P:∀v∈V,Gg n v)(hn:n<=31)(hl:V.length<=10000):RO (V.map (·.2.1))=some (bif decide (64<V.length) then([],5) else(V.map (·.2.2.1),0)):=by
 refine GJ ?_;unfold RO;rw[BY];refine C9 V (λ(s:A3 D9) i=>(s,i)) (λA s=>s=A.map (·.2.2.1)) (λA v C s k hA hP next=>?_) (λs k hP=>?_) (s0:=[]) rfl A4
 ·dsimp only;rw[CD hA,BH];have al:=Cn hA;let⟨p1,p2⟩:=P v<|at_mem hA
  refine A6 (Jq (λv:PS=>v.2.1) hA)<|A6 (ain p1 A4) ?_
  rw[show(!decide ((0:Int)=0))=false from rfl,Ar];exact A6 (app_1 A4 (by rw[hP,BY];omega)) (A6 (C4 hA A4) (next _ (by rw[hP];simp)))
 ·dsimp only;rw[CG,Ar];have:decide ((64:Int)<(s.length:Int))=decide (64<V.length):=Ha.2 (by rw[hP,BY];omega);rw[this,hP];cases decide (64<V.length)<;>exact AU rfl
def ah9{l:A3 D9}(h:∀b∈l,b.length<=1000)(hl:l.length<=1000000):br l l=some true:=by
 refine GJ ?_;unfold br;rw[B5 rfl,Qd,Ar];refine C9 l (λ(_:Unit) i=>i) (λA _=>True) (λA x C u k hA _ next=>?_) (λu k _=>?_) (s0:=()) trivial A4
 ·rw[CD hA,BH];refine A6 (Bk hA) (A6 (Bk hA) (A6 (agN (by have:=h x (at_mem hA);omega)) ?_));rw[Qd,Ar];exact A6 (C4 hA A4)<|next () trivial
 ·rw[CG,Ar];exact AU rfl
def anQ{l:A3 D9}(h:∀b∈l,b.length<=32/\∀x∈b,x.2.length<=100)(hl:l.length<=1000000):eF l=some (bif decide (64<l.length) then 5 else 0):=by
 refine GJ ?_;unfold eF;refine C9 l (λ(_:Unit) i=>i) (λA _=>True) (λA x C u k hA _ next=>?_) (λu k _=>?_) (s0:=()) trivial A4
 ·rw[CD hA,BH];refine A6 (Bk hA) ?_;rw[Bu (show¬(32:Int)<(x.length:Int) by have:=(h x<|at_mem hA).1;omega),Ar];exact A6 (C4 hA A4)<|next () trivial
 ·rw[CG,Ar];have:decide ((64:Int)<(l.length:Int))=decide (64<l.length):=Ha.2 A4;rw[this];cases decide (64<l.length)
  ·rw[Ar,Ar];refine C9 l (λ(_:Unit) i=>i) (λA _=>True) (λA x C u k hA _ next=>?_) (λu k _=>?_) (s0:=()) trivial A4
   ·rw[CD hA,BH];have hx:=h x<|at_mem hA
    refine A6 (Bk hA)<|A6 (afq hx.2 A4) ?_
    rw[show(!decide ((0:Int)=0))=false from rfl,Ar];exact A6 (C4 hA A4)<|next () trivial
   ·rw[CG,Ar];exact AU rfl
  ·exact AU rfl
def ajb{x:Rat}(h:bq x 14):(BW x).length<=100:=by have:=nm h A4;omega
def Gg.Fm{v:PS}(P:Gg n v)(hn:n<=31):v.2.2.1.length<=32/\∀h∈v.2.2.1,h.2.length<=100:=by let⟨⟨_,_,_,R⟩,p2⟩:=P;have rl:=R.len;rw[BY] at rl;refine⟨A4,λh mh=>?_⟩;have o:=R.ok h mh;rw[o.txt];exact ajb o.num.2.1
def oS{V:A3 PS}(P:∀v∈V,Gg n v)(hn:n<=31)(hl:V.length<=10000){x:A3 D9×Int}(hx:RO (V.map (·.2.1))=some x):JC x.1 x.2 0 (V.map (·.2.2.1))=some true:=by
 rw[eh P hn hl] at hx;have hL:∀b∈V.map (·.2.2.1),b.length<=32/\∀x∈b,x.2.length<=100:=λb mb=>by obtain⟨v,mv,rfl⟩:=BR.1 mb;exact(P v mv).Fm hn
 have ft:=anQ hL (by rw[BY];omega);rw[BY] at ft;have sm:=ah9 (l:=V.map (·.2.2.1)) (λb mb=>by have:=(hL b mb).1;omega) (by rw[BY];omega);unfold JC jn;dsimp;rw[show decide ((0:Int)=0)=true from rfl,BH,ft,Cm];cases h:decide (64<V.length)<;>rw[h] at hx
 ·rw[Ar] at hx;obtain rfl:=E9 hx;rw[Ar,show(!decide ((0:Int)=0))=false from rfl,Ar];rw[sm];rfl
 ·rw[BH] at hx;obtain rfl:=E9 hx;rw[BH,show(!decide ((5:Int)=0))=true from rfl,BH];rfl
def ai2{c:Int}(h:c≠0):JC [] c c []=some true:=by unfold JC;show cond (decide<|c=0) _ _=_;rw[Bu h];show cond (!decide (c=0)) _ _=_;rw[Bu h];show some (decide (((0:Nat):Int)=0)&&decide (c=c))=_;rw[B5<|show c=c from rfl];rfl
theorem aeG{F:A3 CC}(P:NI l S s)(ob:OkB b F)(hl:l.length+b.length<=32):∃r q,Mj S (F.map (·.1))=some r/\P9 s b=some q/\r.2=q.2/\(r.2=true->NI (b++l) r.1 q.1):=by
 let⟨okb,Ib,all⟩:=ob;have fw:∀k∈F.map (·.1),k∈b.map rh:=λk mk=>by obtain⟨f,mf,rfl⟩:=BR.1 mk;exact(Ib.EZ f mf).1
 have hF:∀k,k∈F.map (·.1)↔k∈b.map rh:=λk=>⟨fw k,all k⟩
 have o:∀g∈b++l,Bp g:=λg mg=>(Bs.1 mg).elim (okb g)<|P.ok g
 have Fm:Iw 14 (F.map (·.1)++l.map rh):=λg mg=>(Bs.1 mg).elim (λm=>Bp.Fm okb g<|fw g m)<|Bp.Fm P.ok g
 have pr:∀g∈F.map (·.1)++l.map rh,Hu g.1:=λg mg=>(Bs.1 mg).elim (λm=>Bp.Om okb g<|fw g m)<|Bp.Om P.ok g
 have FL:=Ib.len;rw[BY] at FL;let⟨Z,R⟩:=P.R;let⟨r,r1,r2⟩:=Yd.dc P.I Fm A4 DC (λh mh=>(pr h<|Ij _ mh).nz) λa ma c mc=>Tg (pr a ma)<|pr c mc
 let⟨q,q1,q2⟩:=mE R P.I P.ok okb hl;have at_:∀{N:A3 H3},(∀k,k∈N↔k∈b.map rh\/k∈l.map rh)->∀k,k∈(b++l).map rh↔k∈N:=λn k=>by rw[n,G9,Bs]
 have inn:∀{N:A3 H3} {T:A3 CC},(∀k,k∈N↔k∈b.map rh\/k∈l.map rh)->CJ T N->HM (b.map rh++l.map rh):=λn I=>by let⟨z,hz⟩:=I.int;exact⟨z,λg mg=>hz g<|(n g).2<|Bs.1 mg⟩
 have ni: ¬HM (F.map (·.1)++l.map rh)-> ¬HM (b.map rh++l.map rh):=λh ⟨z,hz⟩=>h ⟨z,λg mg=>hz g<|Bs.2<|(Bs.1 mg).imp (fw g) id⟩
 refine⟨r,q,r1,q1,?_⟩;rcases r2 with⟨e,N,n1,_,I1⟩|⟨e,n⟩<;>rcases q2 with⟨f,N',T,Z',m1,R1,J1⟩|⟨f,m⟩
 ·have n1:∀k,k∈N↔k∈b.map rh\/k∈l.map rh:=λk=>by rw[n1,hF]
  exact⟨by rw[e,f],λ_=>⟨o,I1.congr<|at_ n1,Z',R1.congr<|at_ m1⟩⟩
 ·grind
 ·exact absurd (inn m1 J1)<|ni n
 ·grind
def aW(v u:PS):A3 CC×Bool:=(Mj v.2.1<|u.2.1.map (·.1)).getD ([],false)
def aR(v u:PS):H6×Bool:=(P9 v.2.2 u.1).getD noR
def HH(v u:PS):A3 PS:=bif (aW v u).2 then [(u.1++v.1,(aW v u).1,(aR v u).1)] else []
theorem pE{v u:PS}(pv:Gg 10 v)(ou:OkB u.1 u.2.1)(ul:u.1.length<=10):Mj v.2.1 (u.2.1.map (·.1))=some (aW v u)/\P9 v.2.2 u.1=some (aR v u)/\(aW v u).2=(aR v u).2/\∀w∈HH v u,Gg 20 w:=by
 have l1:=pv.2;let⟨r,q,e1,e2,e3,e4⟩:=aeG pv.1 ou A4;have w:aW v u=r:=by unfold aW;rw[e1];rfl
 have x:aR v u=q:=by unfold aR;rw[e2];rfl
 refine⟨by rw[w];exact e1,by rw[x];exact e2,by rw[w,x];exact e3,λy my=>?_⟩;unfold HH at my;cases h:(aW v u).2
 ·grind
 ·rw[h] at my;rw[Cl.1 my];refine⟨?_,by show(u.1++v.1).length<=20;rw[Dg];omega⟩;show NI (u.1++v.1) (aW v u).1 (aR v u).1;rw[w] at h;rw[w,x];exact e4 h
def anX(v u:PS):(HH v u).length<=1:=by unfold HH;cases(aW v u).2<;>simp
end
end Trn
