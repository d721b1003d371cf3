/- Part of SolidCuts. -/
import Derived.Test.YtieipfegkfhllaaGreatDoorLb
set_option maxRecDepth 100000
set_option maxHeartbeats 20000000
set_option linter.all false
open Go Go.RowKit Go.Proofs Go.Proofs.Tryz
namespace Trn
section
variable{l:A3 BZ}{h:BZ}
theorem tT(hl:∀h∈l,in3 h.1/\h.2.length<=14)(hn:l.length<=100000000):∃c,XK l=some c/\bX l=some c/\(c=0->∀h∈l,Bs h):=by
 let f:BZ->Int:=λh=>(O7 h).getD 0
 have hf:∀h∈l,O7 h=some (f h)/\Oz h=some (f h)/\(f h=0->Bs h):=λh mh=>by let⟨c,c1,c2,c3⟩:=lR (hl h mh).1 (hl h mh).2;have:f h=c:=AL;rw[this];exact⟨c1,c2,c3⟩
 let g:A3 BZ->Int:=λl=>((l.map f).find? λc=> !decide (c=0)).getD 0
 have one:∀(chk:BZ->AA Int),(∀h∈l,chk h=some (f h))->Yd (λr=>r=g l) (BH (λk2 (s1:Int)=>cond (decide<|s1<(l.length:Int)) (bd (AB l s1) λx4=>bd (chk x4) λx6=>cond (!decide (x6=0)) (some x6)<|bd (AH<|s1+1) λx9=>k2 x9)<|some 0) 0):=by
  intro chk au0;refine CB l (λ(_:Unit) i=>i) (λA _=>∀h∈A,f h=0) (λA x C s k hA hP next=>?_) (λs k hP=>?_) (s0:=()) AX A4
  .rw[CE hA,BI];refine A6 (Bn hA)<|A6 (au0 x<|at_mem hA)<|Ac (λhc=>AU ?_) λhc=>A6 (C7 hA A4)<|next () λh mh=>?_
   .grind
   .grind
  .rw[CP,As];refine AU ?_;show _=((l.map f).find? _).getD 0;rw[List.find?_eq_none.2 (λc mc=>by obtain⟨h,mh,rfl⟩:=BU.1 mc;rw[hP h mh];simp)];rfl
 obtain⟨r,r1,rfl⟩:=one O7 λh mh=>(hf h mh).1
 obtain⟨r,r2,rfl⟩:=one Oz λh mh=>(hf h mh).2.1
 refine⟨g l,r1,r2,λe h mh=>(hf h mh).2.2 ?_⟩;refine Co λhne=>?_
 have:((l.map f).find? λc=> !decide (c=0)).getD 0=0:=e;cases hF:(l.map f).find? λc=> !decide (c=0) with
 |none=>exact List.find?_eq_none.1 hF (f h) (BU.2 ⟨h,mh,rfl⟩) (by simpa using hne)
 |some c=>rw[hF] at this;have c0:c=0:=this;have:=List.find?_some hF;rw[c0] at this;cases this
def nd(q:Rat)(m d:Nat):Prop:=q.num.natAbs<=m/\q.den<=d
def nd3(p:Q3)(m d:Nat):Prop:=nd p.1 m d/\nd p.2.1 m d/\nd p.2.2 m d
def Bs.nd{h:BZ}(o:Bs h):nd3 (rh h).1 1000000000 1:=by
 have k:∀{x:Int},EY x=false->Trn.nd (x:Rat) 1000000000 1:=λ{x} hx=>by have:=Mt hx;exact⟨by rw[S5];omega,by rw[Tz];omega⟩
 exact⟨k o.x,k o.y,k o.z⟩
def qT{x:Int}(h:EY x=false):qF x=some (x:Rat):=by have:=Mt h;unfold qF;rw[EW ⟨A4,A4⟩];rfl
def Bs.from(o:Bs h):V5 h=some (rh h):=by unfold V5 NP;rw[qT o.x,qT o.y,qT o.z,o.num.2.2];rfl
def zW(o:∀h∈l,Bs h)(hl:l.length<=100000000):VK l=some (l.map rh):=by
 refine Fz ?_;unfold VK;refine CB l (λ(s:A3 H3) i=>(s,i)) (λA s=>s=A.map rh) (λA x C s k hA hP next=>?_) (λs k hP=>?_) (s0:=[]) rfl A4
 .dsimp;rw[CE hA,BI];have al:=Cz hA;exact A6 (Bn hA) (A6 (o x<|at_mem hA).from (A6 (app_1 A4 (by rw[hP,Be];omega)) (A6 (C7 hA A4) (next _ (by rw[hP,Ge];rfl)))))
 .dsimp;rw[CP,As];exact AU hP
def JZ(a b:N3):Prop:=a.1<b.1\/a.1=b.1/\(a.2.1<b.2.1\/a.2.1=b.2.1/\a.2.2<b.2.2)
instance(a b:N3):Decidable (JZ a b):=by unfold JZ;exact inferInstance
theorem mW(a b:Int):Ut a b=some (bif decide (a<b) then -1 else bif decide (b<a) then 1 else 0):=by
 unfold Ut Xc;rw[B4 rfl,B4 rfl];simp[bd,PY,As];cases decide (a<b)
 .grind
 .rfl
def xl(a b:N3):∃v,V6 a b=some v/\(v<0↔JZ a b):=by
 unfold V6;rw[mW,mW,mW];simp[bd];rw[or3];refine⟨_,rfl,?_⟩;let⟨a1,a2,a3⟩:=a;let⟨b1,b2,b3⟩:=b;unfold JZ;simp only;have M8:∀x y:Int,(x<y/\ ¬y<x/\x≠y)\/(¬x<y/\ ¬y<x/\x=y)\/(¬x<y/\y<x/\x≠y):=λx y=>by omega
 rcases M8 a1 b1 with⟨h1,h2,h3⟩|⟨h1,h2,h3⟩|⟨h1,h2,h3⟩<;>rcases M8 a2 b2 with⟨g1,g2,g3⟩|⟨g1,g2,g3⟩|⟨g1,g2,g3⟩<;>rcases M8 a3 b3 with⟨k1,k2,k3⟩|⟨k1,k2,k3⟩|⟨k1,k2,k3⟩<;>simp[h1,h2,h3,g1,g2,g3,k1,k2,k3]
theorem nE(a b:N3):V8 a b=some (decide<|JZ a b):=by
 refine Fz ?_;unfold V8;refine CB [(a.1,b.1),(a.2.1,b.2.1),(a.2.2,b.2.2)] (λ(_:Unit) i=>i) (λA _=>∀p∈A,p.1=p.2) (λA x C s k hA hP next=>?_) (λs k hP=>?_) (s0:=()) AX AX
 .have al:=Cz hA;rw[show [(a.1,b.1),(a.2.1,b.2.1),(a.2.2,b.2.2)].length=3 from rfl] at al;rw[B4 (show(A.length:Int)<3 by omega),BI];have ix:=Bn hA;have i1:AB [a.1,a.2.1,a.2.2] (A.length:Int)=some x.1:=by rw[JO] at ix⊢;have:=congrArg (Option.map (·.1)) ix;rwa [<-Gy] at this
  have i2:AB [b.1,b.2.1,b.2.2] (A.length:Int)=some x.2:=by rw[JO] at ix⊢;have:=congrArg (Option.map (·.2)) ix;rwa [<-Gy] at this
  refine A6 i1<|A6 i2<|Ac (λhc=>A6 i1<|A6 i2<|AU<|HX.2 ?_) λhc=>A6 (C7 hA AX)<|next () λp mp=>?_
  .have hne:x.1≠x.2:=by simpa using hc
   unfold JZ;rcases A with _|⟨a0,_|⟨a1,_|⟨a2,A⟩⟩⟩
   .grind
   .grind
   .grind
   .simp at al
  .grind
 .rw[show decide ((([(a.1,b.1),(a.2.1,b.2.1),(a.2.2,b.2.2)].length:Nat):Int)<3)=false from rfl,As];refine AU (Bo ?_).symm;have h0:=hP _ (by simp:(a.1,b.1)∈_);have h1:=hP _ (by simp:(a.2.1,b.2.1)∈_);have h2:=hP _ (by simp:(a.2.2,b.2.2)∈_);dsimp only at h0 h1 h2;unfold JZ;omega
theorem Bs.text(o:Bs h):Xb (rh h)=some (h,true):=by
 refine Fz ?_;have one:∀{z:Int},z=1->D9 z=true:=λe=>by rw[e];rfl
 have r1:rh h=(((h.1.1:Rat),(h.1.2.1:Rat),(h.1.2.2:Rat)),(rh h).2):=rfl;have ab:∀{x:Int},EY x=false->x.natAbs<=999999999:=λhx=>by have:=Mt hx;omega
 have js:∀{x:Rat},lv 14 x->x.num.natAbs<10^600/\x.den<10^600:=λhx=>by
  have:=N2 hx;have p:∀a b:Nat,a<=b->(10:Nat)^a<=10^b:=λa b h=>K8 A4 h
  have e:=p (14+1) 600 A4;exact⟨Jj this.1 e,Jj this.2 e⟩
 have norm:Yd (λr=>r=rh h) (Up<|rh h):=by
  unfold Up;refine A6 (x:=1) rfl ?_;refine CB [h.1.1,h.1.2.1,h.1.2.2] (λ(s:Int) i=>(s,i)) (λA s=>s=1) (λA x C s k hA hP next=>?_) (λs k hP=>?_) (s0:=1) rfl AX
  .have al:=Cz hA;rw[show [h.1.1,h.1.2.1,h.1.2.2].length=3 from rfl] at al;dsimp;rw[B4 (show(A.length:Int)<3 by omega),BI];have ix:AB [(rh h).1.1,(rh h).1.2.1,(rh h).1.2.2] (A.length:Int)=some (x:Rat):=by have ix:=Bn hA;rw[JO] at ix⊢;have:=congrArg (Option.map (λx:Int=>(x:Rat))) ix;rwa [<-Gy] at this
   subst hP;have dn:(((x:Rat).den:Nat):Int)=1:=by rw[Tz];rfl
   refine A6 ix ?_;rw[dn];exact A6 (x:=1) rfl<|A6 (x:=1) rfl<|A6 (x:=1) rfl<|A6 (C7 hA AX)<|next 1 rfl
  .dsimp only;rw[show decide ((([h.1.1,h.1.2.1,h.1.2.2].length:Nat):Int)<3)=false from rfl,As,hP];refine A6 (x:=(1:Rat)) rfl<|A6 (x:=0) rfl ?_
   refine CB [h.1.1,h.1.2.1,h.1.2.2] (λ(s:Int) i=>(s,i)) (λA s=>s=((A.foldl (λg x=>Nat.gcd g x.natAbs) 0:Nat):Int)) (λA x C s k hA hP next=>?_) (λs k hP=>?_) (s0:=0) rfl AX
   .have al:=Cz hA;rw[show [h.1.1,h.1.2.1,h.1.2.2].length=3 from rfl] at al;rw[B4 (show(A.length:Int)<3 by omega),BI];have ix:AB [(rh h).1.1,(rh h).1.2.1,(rh h).1.2.2] (A.length:Int)=some (x:Rat):=by have ix:=Bn hA;rw[JO] at ix⊢;have:=congrArg (Option.map (λx:Int=>(x:Rat))) ix;rwa [<-Gy] at this
    have fx:∀y∈[h.1.1,h.1.2.1,h.1.2.2],EY y=false:=by
     intro y my;simp at my;rcases my with rfl|rfl|rfl
     .exact o.x
     .exact o.y
     .exact o.z
    have hx:=fx x<|at_mem hA
    have gl:A.foldl (λg x=>Nat.gcd g x.natAbs) 0<=999999999:=by
     have:∀(l:A3 Int) (g:Nat),g<=999999999->(∀y∈l,EY y=false)->l.foldl (λg x=>Nat.gcd g x.natAbs) g<=999999999:=by
      intro l
      induction l with
      |nil=>intro g hg _;exact hg
      |cons y l ih=>
       intro g hg hl;refine ih _ ?_ λz mz=>hl z<|By _ mz
       have:=ab<|hl y Dc
       rcases LJ g with e|e
       .grind
       .exact Ct (Nat.gcd_le_left _ e) hg
     exact this A 0 A4 λy my=>fx y (by rw[hA];simp[my])
    have q1:GB (x:Rat) 1=some (x:Rat):=by
     have o9:lv 9 (1:Rat):=Ji (d:=1) (.inl rfl) 9;rw[ZB (jC hx<|BK 9) o9 A4 A4]
     congr 1;show(x:Rat)*1=x;grind
    refine A6 ix (A6 q1 (A6 (x:=(x.natAbs:Int)) (by rw[S5];rfl)<|A6 (x:=((Nat.gcd (A.foldl (λg x=>Nat.gcd g x.natAbs) 0) x.natAbs:Nat):Int)) ?_<|A6 (C7 hA AX)<|next _ ?_))
    .unfold Ou;rw[hP,fk (by rw[G6];omega),fk (by rw[G6];have:=ab hx;omega)];rfl
    .grind
   .dsimp only;rw[show decide ((([h.1.1,h.1.2.1,h.1.2.2].length:Nat):Int)<3)=false from rfl,As];have g1:s=1:=by rw[hP];show((Nat.gcd (Nat.gcd (Nat.gcd 0 _) _) _:Nat):Int)=_;rw[Nat.gcd_zero_left];have:=o.g;unfold Hs at this;rw[this];rfl
    rw[g1];have l1:lv 14 (1:Rat):=Ji (d:=1) (.inl rfl) 14;have e1:BX (rh h).1 1=(rh h).1:=J0;refine A6 (x:=(1:Rat)) rfl<|A6 (x:=(1:Rat)) ?_<|A6 (wm (o.lvn (n:=14) A4) l1 A4 A4).1<|A6 (ZB o.JW l1 A4 A4)<|AU ?_
    .rw[(ab0 l1 l1 A4 A4 (by show(1:Rat)≠0;grind)).1]
     congr 1;grind
    .grind
 obtain⟨r,n1,rfl⟩:=norm;unfold Xb;refine A6 n1<|A6 (ajF (js o.JW).1 (js o.JW).2) ?_
 rw[<-o.txt];refine CB [h.1.1,h.1.2.1,h.1.2.2] (λ(s:BZ) i=>(((0,0,0),[]),s,i)) (λA s=>s.2=h.2/\(0<A.length->s.1.1=h.1.1)/\(1<A.length->s.1.2.1=h.1.2.1)/\(2<A.length->s.1.2.2=h.1.2.2)) (λA x C s k hA hP next=>?_) (λs k hP=>?_) (s0:=((0,0,0),h.2)) ⟨rfl,AX,AX,AX⟩ AX
 .have al:=Cz hA;rw[show [h.1.1,h.1.2.1,h.1.2.2].length=3 from rfl] at al;rw[B4 (show(A.length:Int)<3 by omega),BI];have ix0:=Bn hA;have ix:AB [(rh h).1.1,(rh h).1.2.1,(rh h).1.2.2] (A.length:Int)=some (x:Rat):=by have ix:=Bn hA;rw[JO] at ix⊢;have:=congrArg (Option.map (λx:Int=>(x:Rat))) ix;rwa [<-Gy] at this
  have hx:EY x=false:=by
   have:=at_mem hA;simp at this;rcases this with rfl|rfl|rfl
   .exact o.x
   .exact o.y
   .exact o.z
  have bx:=Mt hx;have i6:Hb x=true:=by unfold Hb;rw[B4 A4,B4 A4];rfl
  refine A6 ix<|A6 (x:=(x,true)) ?_ ?_
  .unfold Pn;rw[S5,Bo A4,i6];rfl
  .dsimp;rw[Bo (show¬999999999<x by omega),Bo (show¬x< -999999999 by omega)];simp[PY,Bool.or_self,As];have hm:=hP;rw[E7] at next
   generalize A.length=m at*
   have:m=0\/m=1\/m=2:=A4;rcases this with rfl|rfl|rfl
   .exact A6 (x:=s.1.1) rfl (A6 (x:=1) rfl (next ((x,s.1.2.1,s.1.2.2),s.2) ⟨hP.1,λ_=>(E8 ix0).symm,λh=>by simp at h,λh=>by simp at h⟩))
   .exact A6 (x:=s.1.2.1) rfl (A6 (x:=2) rfl (next ((s.1.1,x,s.1.2.2),s.2) ⟨hP.1,λ_=>hP.2.1 A4,λ_=>(E8 ix0).symm,λh=>by simp at h⟩))
   .exact A6 (x:=s.1.2.2) rfl<|A6 (x:=3) rfl<|next ((s.1.1,s.1.2.1,x),s.2) ⟨hP.1,λ_=>hP.2.1 A4,λ_=>hP.2.2.1 A4,λ_=>(E8 ix0).symm⟩
 .dsimp only;rw[show decide ((([h.1.1,h.1.2.1,h.1.2.2].length:Nat):Int)<3)=false from rfl,As];refine A6 (akm (js o.JW).1 (js o.JW).2)<|AU ?_
  have e:s=h:=Prod.ext (Prod.ext (hP.2.1 AX)<|Prod.ext (hP.2.2.1 AX)<|hP.2.2.2 AX) hP.1;rw[e];rfl
def Zi(a:N3): ¬JZ a a:=by unfold JZ;omega
def aQ{a b c:N3}:JZ a b->JZ b c->JZ a c:=by unfold JZ;omega
def qM(a b:N3):a=b\/JZ a b\/JZ b a:=by let⟨a1,a2,a3⟩:=a;let⟨b1,b2,b3⟩:=b;unfold JZ;simp[Lp];omega
abbrev HF(a b:BZ):Prop:=JZ a.1 b.1
theorem xe{S:A3 CQ}{L:A3 H3}(I:CH S L){f g:CQ}(mf:f∈S)(mg:g∈S)(e:f.1.1=g.1.1):f.1=g.1:=by
 have le:∀{f g:CQ},f∈S->g∈S->f.1.1=g.1.1->f.1.2<=g.1.2:=λ{f g} mf mg e=>by let⟨f1,_,f3,f4⟩:=I.Eg f mf;let⟨p,mp⟩:=List.exists_mem_of_ne_nil f.2 (λe=>by rw[e] at f3;simp at f3);let⟨vp,tp⟩:=(f4 p).1 mp;have:=vp.1 g.1 (I.Eg g mg).1;unfold val at this tp;rw[e] at tp;grind
 exact Prod.ext e<|Rat.le_antisymm (le mf mg e)<|le mg mf e.symm
def anZ{S:A3 CQ}(o:∀h∈l,Bs h)(I:CH S (l.map rh))(hl:l.length<=32):Yd (λr=>r.2=0/\r.1.length=S.length/\r.1.Pairwise HF/\∀h,h∈r.1↔h∈l/\rh h∈S.map (·.1)) (Sy S):=by
 have SL:S.length<=32:=by have:=I.len;rw[Be] at this;omega
 unfold Sy;refine CB S (λ(s:A3 BZ×Bool) i=>(s.1,s.2,i)) (λA s=>s.2=false/\(∀h∈s.1,h∈l)/\s.1.map rh=A.map (·.1)) (λA f C s k hA hP next=>?_) (λs k hP=>?_) (s0:=([],false)) AX A4
 .dsimp;rw[CE hA,BI];let⟨h,mh,e⟩:=BU.1 (I.Eg f<|at_mem hA).1;refine A6 (Bn hA) ?_;rw[<-e];refine A6 (o h mh).text ?_;have al:=Cz hA;have sl:s.1.length=A.length:=by rw[<-Be (f:=rh),hP.2.2,Be]
  have nz:decide (h.1=((0:Int),(0:Int),(0:Int)))=false:=Bo λc=>by have:=(o h mh).g;rw[c] at this;cases this
  rw[nz,As,hP.1];refine A6 (app_1 A4 A4)<|A6 (C7 hA A4)<|next (_,false) ⟨rfl,λg mg=>?_,?_⟩
  .rcases C3.1 mg with m|m
   .exact hP.2.1 g m
   .rw[Cn.1 m];exact mh
  .rw[Ge,Ge,hP.2.2,List.map_singleton,List.map_singleton,e]
 .dsimp;rw[CP,As];let⟨b,f⟩:=s;let⟨hf,hb,he⟩:=hP;dsimp only at*;subst hf;have bl:b.length=S.length:=by rw[<-Be (f:=rh),he,Be]
  rw[Bo (show¬32<(b.length:Int) by omega),As,As];have hin:∀h∈b,∃f∈S,f.1=rh h:=λh mh=>by have this:rh h∈b.map rh:=BU.2 ⟨h,mh,rfl⟩;rw[he] at this;exact BU.1 this
  have hO:M4 (λx:BZ×BZ=>Uo x.1 x.2<|λx=>XH x) HF b:=⟨λx _ y _=>by
   let⟨v,v1,v2⟩:=xl x.1 y.1;refine⟨v,?_,v2⟩;show Uo x y _=_;unfold Uo XH;rw[Ck,Ck,v1];rfl,λx _=>Zi x.1,λx _ y _ z _=>aQ,λx mx y my=>by
   rcases qM x.1 y.1 with e|h
   .left;let⟨f,mf,ef⟩:=hin x mx;let⟨g,mg,eg⟩:=hin y my;refine Ph (o x<|hb x mx) (o y<|hb y my) ?_;rw[<-ef,<-eg];refine xe I mf mg ?_;rw[ef,eg];show rn x.1=rn y.1;rw[e]
   .exact .inr h⟩
  let⟨r,r1,r2,r3⟩:=pK hO A4;refine A6 (x:=r) (by unfold kQ;rw[r1];rfl) (AU ⟨rfl,by rw[r2.length_eq,bl],?_,λh=>?_⟩)
  .have nd:b.Nodup:=by
    have:(b.map rh).Pairwise (· ≠ ·):=by rw[he];exact Nb.2<|I.RA.imp λh=>h
    exact(Nb.1 this).imp λh e=>h (by rw[e])
   exact UB (λ{a b} ma mb h=>h.1.resolve_left h.2)<|r3.and<|r2.nodup_iff.2 nd
  .show h∈r↔_;rw[r2.mem_iff];constructor
   .intro mh;refine⟨hb h mh,?_⟩;rw[<-he];exact BU.2 ⟨h,mh,rfl⟩
   .rintro⟨mh,m⟩;rw[<-he] at m;let⟨g,mg,e⟩:=BU.1 m;rw[<-Ph (o g<|hb g mg) (o h mh) e];exact mg
def IH(L:A3 H3):Prop:=∃o,∀k∈L,val k o<0
def zt(o:∀h∈l,Bs h)(hl:l.length<=50):Yd (λr=>(r.2=13/\ ¬Ee (l.map rh))\/(r.2=12/\Ee (l.map rh)/\ ¬IH (l.map rh))\/(r.2=0/\CH r.1 (l.map rh))) (Y7 l):=by
 have Gb:=Bs.Gb o;have pr:=Bs.Qr o;have ll:(l.map rh).length=l.length:=Be _;unfold Y7;refine A6 (zW o A4)<|Ap (aho Gb A4 A4 A4 pr) λb hb=>?_
 refine Ac (λhc=>AU<| .inl ⟨rfl,λc=>?_⟩) λhc=>?_
 .rw[hb.2 c] at hc;cases hc
 .have hB:Ee (l.map rh):=hb.1 (by simpa using hc);refine Ap (yz Gb A4 A4 A4 pr) λr hr=>?_
  rcases hr.O0 pr hB with⟨e,h⟩|⟨e,h⟩
  .rw[e];exact AU<| .inr<| .inr ⟨rfl,h⟩
  .rw[e];exact AU<| .inr<| .inl ⟨rfl,hB,h⟩
def Asc(l:A3 BZ):Prop:=∀A x y C,l=A++x::y::C->HF x y
def aaU{A:A3 BZ}{x y:BZ}{C:A3 BZ}(e:l=A++x::y::C)(h:Asc (A++[x]))(b:HF x y):Asc (A++[x]++[y]):=by
 intro A' x' y' C' e';rcases iP C' with rfl|⟨D,z,rfl⟩
 .have e2:A++[x]++[y]=(A'++[x'])++[y']:=by rw[e'];simp
  let⟨e3,e4⟩:=ZP e2 rfl;let⟨_,e5⟩:=ZP e3 rfl;cases e4;cases e5;exact b
 .have e2:A++[x]++[y]=(A'++x'::y'::D)++[z]:=by rw[e'];simp
  let⟨e3,_⟩:=ZP e2 rfl;exact h A' x' y' D e3
def wT(o:∀h∈l,Bs h)(hc:XK l=some 0)(hl:l.length<=32):Yd (λr=>(r.2=11/\ ¬Asc l)\/(Asc l/\((r.2=13/\ ¬Ee (l.map rh))\/(r.2=12/\Ee (l.map rh)/\ ¬IH (l.map rh))\/(CH r.1 (l.map rh)/\r.2=bif decide (r.1.length<l.length) then 1 else 0)))) (NC l):=by
 unfold NC;rw[Bo (show¬32<(l.length:Int) by omega),As,hc];refine A6 rfl ?_;show Yd _ (lp _ _ 0);refine CB l (λ(_:Unit) i=>i) (λA _=>Asc A) (λA x C s k hA hP next=>?_) (λs k hP=>?_) (s0:=()) (λA x y C e=>by cases A<;>cases e) A4
 .rw[CE hA,BI];obtain rfl|⟨B,y,rfl⟩:A=[]\/∃B y,A=B++[y]:=(iP A).imp id λ⟨B,y,h⟩=>⟨B,y,by rw[h,List.concat_eq_append]⟩
  .exact A6 (C7 hA A4) (next () λA' x' y' C' e=>by have:=congrArg List.length e;simp at this;omega)
  .have i1:AB l (B.length:Int)=some y:=by rw[JO,hA];simp
   have i2:=Bn hA;have al:=Cz hA;have f:=C7 hA A4;let⟨v,v1,v2⟩:=xl y.1 x.1;have en:(B++[y]).length=B.length+1:=AX;have nx:=next ()
   have H9:=aaU (l:=l) (A:=B) (x:=y) (y:=x) (C:=C) (by rw[hA];simp) hP
   generalize (B++[y]).length=m at*
   subst en;have hpos:decide ((0:Int)<((B.length+1:Nat):Int))=true:=B4 A4;rw[hpos,show gd true true=true from rfl,Cs rfl];refine A6 (x:=(B.length:Int)) (by rw[EW ⟨A4,A4⟩];exact congrArg some A4) ?_;rw[Cs rfl];refine A6 i1 ?_;rw[Cs rfl];refine A6 i2 ?_;rw[Cs rfl];refine A6 v1 ?_;rw[Lq];refine Ac (λhv=>AU<| .inl ⟨rfl,λc=>?_⟩) λhv=>?_
   .have:=v2.2 (c B y x C (by rw[hA];simp));have:=Ar hv;omega
   .have:=Bg hv;exact A6 f<|nx<|H9<|v2.1 A4
 .rw[CP,As];refine Ap (zt o A4) λr hr=>?_
  rcases hr with⟨e,h⟩|⟨e,h1,h2⟩|⟨e,h⟩
  .rw[e];exact AU<| .inr ⟨hP,.inl ⟨rfl,h⟩⟩
  .rw[e];exact AU<| .inr ⟨hP,.inr<| .inl ⟨rfl,h1,h2⟩⟩
  .rw[e];have hd:decide ((r.1.length:Int)<(l.length:Int))=decide (r.1.length<l.length):=HX.2 A4;rw[hd];show Yd _ (cond (decide<|r.1.length<l.length) (some (r.1,1))<|some (r.1,0));cases hq:decide (r.1.length<l.length)
   .exact AU (.inr ⟨hP,.inr (.inr ⟨h,by dsimp;rw[hq];rfl⟩)⟩)
   .exact AU (.inr ⟨hP,.inr (.inr ⟨h,by dsimp;rw[hq];rfl⟩)⟩)
def aii{n:Int}(h: -999999999<=n/\n<=999999999):Yd (λp=>F3 p n/\p.2.length<=1) (RL n):=by
 obtain⟨F,hF⟩:∃F,18446744073709551616=F+2:=⟨18446744073709551614,rfl⟩;unfold RL;rw[hF];show Yd _ (cond (!decide (n=0)) _ _);refine Ac (λhc=>?_) λhc=>?_
 .have h0:n≠0:=by simpa using hc
  have rm:n.tmod 1000000000=n:=by
   rcases Int.le_total 0 n with g|g
   .exact Int.tmod_eq_of_lt g A4
   .have h2:=Int.tmod_eq_of_lt (a:= -n) (b:=1000000000) A4 A4;rw[Int.neg_tmod] at h2;omega
  have dv:n.tdiv 1000000000=0:=by have:=Int.mul_tdiv_add_tmod n 1000000000;rw[rm] at this;omega
  refine A6 (x:=n) (by show some (n.tmod 1000000000)=_;rw[rm]) ?_;refine DI (λd=>d=(n.natAbs:Int)) ?_ λk7 h7=>Ac (λhc=>A6 B9 (h7 _ (by have:=Ar hc;omega))) λhc=>h7 _ (by have:=Bg hc;omega)
  rintro d rfl;refine A6 (x:=[(n.natAbs:Int)]) (aaW AX) (A6 (x:=0) (by show AH (n.tdiv 1000000000)=_;rw[dv];rfl) ?_);show Yd _ (bd (L2 (decide<|n<0) [(n.natAbs:Int)]) _);refine Ap (QF (z:=n) (λx mx=>?_) AX ?_) λp hp=>AU hp
  .rw[Cn.1 mx];exact⟨A4,by show _<(1000000000:Int);omega⟩
  .have e:AK [(n.natAbs:Int)]=(n.natAbs:Int):=by show(n.natAbs:Int)+1000000000*0=_;omega
   rw[e];cases hn:decide (n<0)
   .have:=Bg hn;simp[As];omega
   .have:=Ar hn;simp[BI];omega
 .have h0:n=0:=by simpa using hc
  subst h0;exact Ap (QF (z:=0) (λx mx=>by cases mx) AX rfl) λp hp=>AU ⟨hp.1,Ct hp.2 AX⟩
theorem aiD(n:Int):BV (n:Rat)=Cf n:=by(simp_all [BV,Cf]<;>grind)
def mO{n:Int}(h:EY n=false):Uz n=some (BV (n:Rat)):=by
 let⟨p,e,h1,h2⟩:=aii<|Mt h
 unfold Uz;rw[e,Ck,oQ h1 A4,aiD];rfl
end
section
variable{h:BZ}(o:Bs h)
include o
theorem Tk:P2 h=some (Bx (rh h).1):=by unfold P2 PA;rw[mO o.x,Ck,mO o.y,Ck,mO o.z];rfl
theorem ik{p:Q3}{n:Nat}(hp:D6 n p)(hn:n<=5000):Xw h (Bx p)=some (BV<|val (rh h) p)/\lv (3*n+44) (val (rh h) p):=by have l:=o.lvn (n:=9) A4;have d:=aJ l hp;refine⟨?_,Fo (lvs d o.JW) A4⟩;unfold Xw;rw[Tk o,Ck,jY l hp A4,Ck];have e:=UY d o.JW A4 A4;rw[<-o.txt] at e;rw[e];rfl
theorem qg{p:Q3}{n:Nat}(hp:D6 n p)(hn:n<=5000):VM h (Bx p)=some (val (rh h) p).num.sign:=by let⟨e,l⟩:=ik o hp hn;unfold VM;rw[e,Ck,WX l A4];rfl
end
section
variable{l:A3 BZ}{p:Q3}{M:A3 H3}{n:Nat}{α:Type}{x:α}{C:A3 Q3}{A:A3 α}{S:A3 CQ}
def anP{x:Rat}(hx:lv n x)(h0:x≠0)(hn:n<=18000):RD (BV x)=some (BV x⁻¹):=by have o:lv 1 (1:Rat):=Ji (d:=1) (.inl rfl) 1;refine Fz ?_;unfold RD;refine Ap (Rm (N2 hx) A4 A4) ?_;rintro⟨q1,q2⟩ ⟨⟨b1,b2⟩,b3,b4⟩;dsimp only at*;have hf:=dh b2 b1 (λe=>h0<|NW.1 e) A4 A4;rw[pP] at hf;exact A6 hf<|AU rfl
def yq{x:Rat}(hx:lv n x)(hn:n<=18000):V9 (BV x)=some (decide<|x=0):=by unfold V9;rw[YT x<|aH hx hn]
theorem qI(a b c:Q3):AM a (Ah b c)=EP a b c:=by unfold EP AM Ah;grind
def ahW{a b c:BZ}(oa:Bs a)(ob:Bs b)(oc:Bs c):bu a b c=some (bif decide (EP (rh a).1 (rh b).1 (rh c).1=0) then(([],[],[]),false) else(Bx<|Im (rh a) (rh b)<|rh c,true)):=by
 have la:=oa.lvn (n:=9) A4;have lb:=ob.lvn (n:=9) A4;have lc:=oc.lvn (n:=9) A4;have bc':=PM lb lc;have ca':=PM lc la;have ab':=PM la lb;have ld:=aJ la bc';unfold bu mS;rw[Tk oa,Ck,Tk ob,Ck,Tk oc,Ck,WO lb lc A4,Ck,jY la bc' A4,Ck,Ck,yq ld A4,Ck,qI];rw[qI] at ld;cases hd:decide (EP (rh a).1 (rh b).1 (rh c).1=0)
 .have s1:=WN bc' oa.JW A4;have s2:=WN ca' ob.JW A4;have s3:=WN ab' oc.JW A4;rw[<-oa.txt] at s1;rw[<-ob.txt] at s2;rw[<-oc.txt] at s3;have t1:=SJ bc' oa.JW;have t2:=SJ ca' ob.JW;have t3:=SJ ab' oc.JW;have t4:=gh t1 t2;have t5:=gh t4 t3;have h0:=Bg hd;simp[As];rw[Ck,s1,Ck,WO lc la A4,Ck,s2,Ck,qh t1 t2 A4,Ck,WO la lb A4,Ck,s3,Ck,qh t4 t3 A4,Ck,anP ld h0 A4,Ck,WN t5 (lvi ld h0) A4]
  rfl
 .rfl
def amT{a b c:BZ}(oa:Bs a)(ob:Bs b)(oc:Bs c)(h0:EP (rh a).1 (rh b).1 (rh c).1≠0):D6 500 (Im (rh a) (rh b)<|rh c):=by
 have la:=oa.lvn (n:=9) A4;have lb:=ob.lvn (n:=9) A4;have lc:=oc.lvn (n:=9) A4;have ld:=aJ la<|PM lb lc
 rw[qI] at ld;exact QN (SJ (gh (gh (SJ (PM lb lc) oa.JW)<|SJ (PM lc la) ob.JW)<|SJ (PM la lb) oc.JW)<|lvi ld h0) A4
def yc(o:∀h∈l,Bs h)(hl:l.length<=100000000){d:Q3}(hd:D6 n d)(hn:n<=5000):Yd (λb=>b=true↔∃h∈l,0<AM (rh h).1 d) (VF l<|Bx d):=by
 unfold VF;refine CB l (λ(_:Unit) i=>i) (λA _=>∀h∈A,¬0<AM (rh h).1 d) (λA x C s k hA hP next=>?_) (λs k hP=>?_) (s0:=()) AX A4
 .rw[CE hA,BI];have ox:=o x<|at_mem hA
  have l9:=ox.lvn (n:=9) A4;refine A6 (Bn hA)<|A6 (Tk ox)<|A6 (jY l9 hd A4)<|A6 (WX (aJ l9 hd) A4) ?_
  rw[Yi];refine Ac (λhc=>AU ⟨λ_=>⟨x,at_mem hA,Ar hc⟩,λ_=>rfl⟩) λhc=>A6 (C7 hA A4)<|next () λh mh=>?_
  rcases C3.1 mh with m|m
  .exact hP h m
  .rw[Cn.1 m];exact Bg hc
 .rw[CP,As];exact AU ⟨λc=>(by cases c),λ⟨h,mh,c⟩=>absurd c<|hP h mh⟩
def ann:BV (-1)=[45,49]:=A7
def aqB(u v:Q3):BX (Ah u v) (-1)=Ah v u:=(Va u v).symm
def afV(o:∀h∈l,Bs h)(hl:l.length<=50):Yd (λb=>b=true↔Ee (l.map rh)) (bj l):=by
 have bi:Ee (l.map rh)↔(∃f∈l,∃g∈l,Ah (rh f).1 (rh g).1≠o3)/\∀f∈l,∀g∈l,Ah (rh f).1 (rh g).1≠o3->∃h∈l,0<AM (rh h).1 (Ah (rh f).1 (rh g).1):=by
  rw[ana];have mm:∀{h:BZ},h∈l->rh h∈l.map rh:=λmh=>BU.2 ⟨_,mh,rfl⟩
  constructor
  .rintro⟨⟨f,mf,g,mg,c⟩,h⟩;obtain⟨a,ma,rfl⟩:=BU.1 mf;obtain⟨b,mb,rfl⟩:=BU.1 mg;refine⟨⟨a,ma,b,mb,c⟩,λx mx y my c=>?_⟩;let⟨k,mk,c⟩:=h _ (mm mx) _ (mm my) c;obtain⟨z,mz,rfl⟩:=BU.1 mk;exact⟨z,mz,c⟩
  .rintro⟨⟨f,mf,g,mg,c⟩,h⟩;refine⟨⟨_,mm mf,_,mm mg,c⟩,λx mx y my c=>?_⟩;obtain⟨a,ma,rfl⟩:=BU.1 mx;obtain⟨b,mb,rfl⟩:=BU.1 my;let⟨z,mz,c⟩:=h a ma b mb c;exact⟨_,mm mz,c⟩
 rw[show(λb:Bool=>b=true↔Ee (l.map rh))=λb:Bool=>b=true↔(∃f∈l,∃g∈l,Ah (rh f).1 (rh g).1≠o3)/\∀f∈l,∀g∈l,Ah (rh f).1 (rh g).1≠o3->∃h∈l,0<AM (rh h).1 (Ah (rh f).1 (rh g).1) from funext λb=>propext (by rw[bi])];unfold bj;refine CB l (λ(s:Bool) i=>(s,i)) (λA s=>(s=true↔∃f∈A,∃g∈A,Ah (rh f).1 (rh g).1≠o3)/\∀f∈A,∀g∈A,Ah (rh f).1 (rh g).1≠o3->∃h∈l,0<AM (rh h).1 (Ah (rh f).1 (rh g).1)) (λA x C s k hA hP next=>?_) (λs k hP=>?_) (s0:=false) AX A4
 .dsimp;rw[CE hA,BI];have al:=Cz hA;have mx:=at_mem hA;have mA:∀y∈A,y∈l:=λy my=>by rw[hA];exact IB _ my
  refine CB A (λ(t:Bool) i=>(t,i)) (λB t=>(t=true↔(∃f∈A,∃g∈A,Ah (rh f).1 (rh g).1≠o3)\/∃g∈B,Ah (rh x).1 (rh g).1≠o3)/\∀g∈B,Ah (rh x).1 (rh g).1≠o3->(∃h∈l,0<AM (rh h).1 (Ah (rh x).1 (rh g).1))/\∃h∈l,0<AM (rh h).1 (Ah (rh g).1 (rh x).1)) (λB y D t k2 hB hQ Fp=>?_) (λt k2 hQ=>?_) (s0:=s) (by simpa using hP.1) A4
  .dsimp;rw[CE hB,BI];have my:=mA y<|at_mem hB
   have hB':l=B++y::(D++x::C):=by rw[hA,hB];simp
   refine DI (λt:Bool=>(t=true↔(∃f∈A,∃g∈A,Ah (rh f).1 (rh g).1≠o3)\/∃g∈B++[y],Ah (rh x).1 (rh g).1≠o3)/\∀g∈B++[y],Ah (rh x).1 (rh g).1≠o3->(∃h∈l,0<AM (rh h).1 (Ah (rh x).1 (rh g).1))/\∃h∈l,0<AM (rh h).1 (Ah (rh g).1 (rh x).1)) (λt ht=>A6 (C7 hB A4)<|Fp t ht) λk8 h8=>?_
   have lx:=(o x mx).lvn (n:=9) A4;have ly:=(o y my).lvn (n:=9) A4;have lc:=PM lx ly;refine A6 (Bn hA)<|A6 (Tk<|o x mx)<|A6 (Bn hB')<|A6 (Tk<|o y my)<|A6 (WO lx ly A4)<|A6 (qf lc A4) ?_
   have sp:∀{P:BZ->Prop},(∀g∈B++[y],P g)↔(∀g∈B,P g)/\P y:=λ{P}=>by simp[or_imp,forall_and]
   have ex:∀{P:BZ->Prop},(∃g∈B++[y],P g)↔(∃g∈B,P g)\/P y:=λ{P}=>by simp[ZE,exists_or]
   rw[sp] at h8;rw[ex] at h8;refine Ac (λhc=>h8 _ ?_) λhc=>?_
   .have:=Ar hc;exact⟨by rw[hQ.1];simp[this],hQ.2,λc=>absurd this c⟩
   .have h0:=Bg hc;refine Ap (yc o A4 lc A4) λb hb=>?_
    cases b with
    |false=>
     show Yd _ (some false);refine AU ⟨λc=>(by cases c),λc=>?_⟩;have:=hb.2<|c.2 x mx y my h0
     cases this
    |true=>
     show Yd _ (bd (P4 [45,49]<|Bx<|Ah (rh x).1 (rh y).1) _);have l1:lv 1 (-1:Rat):=Ji (d:= -1) (.inr rfl) 1;have sc:=WN lc l1 A4;rw[ann,aqB] at sc;refine A6 sc ?_;show Yd _ (bd (VF l _) _);refine Ap (yc o A4 (PM ly lx) A4) λb' Ba=>?_
     cases b' with
     |false=>refine AU ⟨λc=>(by cases c),λc=>?_⟩;have:=Ba.2 (c.2 y my x mx λe=>h0 (by rw[Va,e,rW]));cases this
     |true=>refine h8 true ⟨⟨λ_=> .inr<| .inr h0,λ_=>rfl⟩,hQ.2,λ_=>⟨hb.1 rfl,Ba.1 rfl⟩⟩
  .dsimp;rw[CP,As];refine A6 (C7 hA A4)<|next t ⟨?_,?_⟩
   .rw[hQ.1];constructor
    .rintro(⟨f,mf,g,mg,c⟩|⟨g,mg,c⟩)
     .exact⟨f,by simp[mf],g,by simp[mg],c⟩
     .exact⟨x,AX,g,by simp[mg],c⟩
    .rintro⟨f,mf,g,mg,c⟩;rcases C3.1 mf with mf|mf<;>rcases C3.1 mg with mg|mg
     .exact .inl ⟨f,mf,g,mg,c⟩
     .rw[Cn.1 mg] at c;exact .inr ⟨f,mf,λe=>c (by rw[Va,e,rW])⟩
     .rw[Cn.1 mf] at c;exact .inr ⟨g,mg,c⟩
     .rw[Cn.1 mf,Cn.1 mg] at c;exact absurd UI c
   .intro f mf g mg c;rcases C3.1 mf with mf|mf<;>rcases C3.1 mg with mg|mg
    .exact hP.2 f mf g mg c
    .rw[Cn.1 mg] at c⊢;exact(hQ.2 f mf λe=>c (by rw[Va,e,rW])).2
    .rw[Cn.1 mf] at c⊢;exact(hQ.2 g mg c).1
    .rw[Cn.1 mf,Cn.1 mg] at c;exact absurd UI c
 .dsimp;rw[CP,As];exact AU ⟨λc=>⟨hP.1.1 c,hP.2⟩,λc=>hP.1.2 c.1⟩
structure Srt(l r:A3 BZ):Prop where
 H9:r.Pairwise HF
 sub:∀h∈r,h∈l
 le:∀h∈l,∃k∈r,k.1=h.1/\rq k.2<=rq h.2
def Srt.least{r:A3 BZ}(s:Srt l r):MX (l.map rh) (r.map rh):=by
 refine⟨λg mg=>?_,λg mg=>?_⟩
 .obtain⟨h,mh,rfl⟩:=BU.1 mg;exact BU.2 ⟨h,s.sub h mh,rfl⟩
 .obtain⟨h,mh,rfl⟩:=BU.1 mg;obtain⟨k,mk,e,c⟩:=s.le h mh;exact⟨rh k,BU.2 ⟨k,mk,rfl⟩,by show rn k.1=rn h.1;rw[e],c⟩
theorem aiL(o:∀h∈l,Bs h)(hl:l.length<=50):Yd (λr=>Srt l r/\r.length<=l.length) (cr l):=by
 unfold cr;refine CB l (λ(s:A3 BZ) i=>(s,i)) (λA s=>Srt A s/\s.length<=A.length) (λA x C s k hA hP next=>?_) (λs k hP=>?_) (s0:=[]) ⟨⟨List.Pairwise.nil,AX,AX⟩,AX⟩ A4
 .dsimp;rw[CE hA,BI];have al:=Cz hA;have mx:=at_mem hA;have ox:=o x mx;let⟨S,sl⟩:=hP;have os:∀h∈s,Bs h:=λh mh=>o h (by rw[hA];exact IB _<|S.sub h mh)
  refine DI (λs'=>Srt (A++[x]) s'/\s'.length<=(A++[x]).length) (λs' h'=>A6 (C7 hA A4)<|next s' h') λk5 h5=>?_
  have put:∀B D:A3 BZ,s=B++D->(∀h∈B,HF h x)->(∀h∈D,HF x h)->Srt (A++[x]) ((B++[x])++D)/\((B++[x])++D).length<=(A++[x]).length:=λB D e hb hd=>by
   have sa:=S.H9;rw[e] at sa;let⟨a1,a2,a3⟩:=LK.1 sa;refine⟨⟨LK.2 ⟨LK.2 ⟨a1,SC _ _,λh mh y my=>by rw[Cn.1 my];exact hb h mh⟩,a2,λh mh y my=>?_⟩,λh mh=>?_,λh mh=>?_⟩,?_⟩
   .rcases C3.1 mh with m|m
    .exact a3 h m y my
    .rw[Cn.1 m];exact hd y my
   .have:h∈s\/h=x:=by rw[e];simp at mh⊢;rcases mh with m|m|m<;>simp[m]
    rcases this with m|m
    .exact IB _<|S.sub h m
    .rw[m];simp
   .rcases C3.1 mh with m|m
    .let⟨k,mk,c⟩:=S.le h m;rw[e] at mk;exact⟨k,by simp at mk⊢;rcases mk with m|m<;>simp[m],c⟩
    .rw[Cn.1 m];exact⟨x,AX,rfl,GR⟩
   .rw[e] at sl;simp at sl⊢;omega
  refine CB s (λ(_:Unit) i=>i) (λB _=>∀h∈B,HF h x) (λB h D t k7 hB hQ Fp=>?_) (λt k7 hQ=>?_) (s0:=()) AX A4
  .have hg:gd (decide<|(B.length:Int)<(s.length:Int)) true=true:=by rw[CE hB];rfl
   have bl:=Cz hB;have mh:=at_mem hB;rw[Cs hg];refine A6 (Bn hB) ?_;rw[Cs hg];refine A6 (Bn hB) ?_;rw[Cs hg];refine A6 (Bn hA) ?_;rw[Cs hg];refine A6 (nE h.1 x.1) ?_;rw[CE hB,Lq];refine Ac (λhc=>A6 (C7 hB A4)<|Fp () λg mg=>?_) λhc=>?_
   .rcases C3.1 mg with m|m
    .exact hQ g m
    .rw[Cn.1 m];exact Ar hc
   .have hnb:=Bg hc;rw[CE hB] at hg;rw[Cs hg];refine A6 (Bn hB) ?_;rw[Cs hg];refine A6 (Bn hB) ?_;rw[Cs hg];refine A6 (Bn hA) ?_;rw[Lq];refine Ac (λhe=>?_) λhe=>?_
    .have he:=Ar he;have lx:=ox.JW;have lh:=(os h mh).JW;have cmp:eK x.2 h.2=some ((rh x).2-(rh h).2).num.sign:=by have e:=UY lx lh A4 A4;rw[<-ox.txt,<-(os h mh).txt] at e;unfold eK;rw[e,Ck,WX (lvs lx lh) A4];rfl
     refine A6 (Bn hA)<|A6 (Bn hB)<|A6 (Bn hB)<|A6 cmp ?_
     rw[sign_neg];refine DI (λs'=>Srt (A++[x]) s'/\s'.length<=(A++[x]).length) (λs' h'=>h5 s' h') λk35 Hf=>Ac (λhc=>?_) λhc=>?_
     .refine A6 (Bn hA) (A6 (Bn hB)<|A6 (Bn hB) ?_);have hx:(h.1,x.2)=x:=by rw[he]
      have st:s.set ((B.length:Int)).toNat (h.1,x.2)=B++x::D:=by rw[hx,Cg,hB];simp
      rw[st];have hlt:rq x.2<rq h.2:=by have h9:=Ar hc;change rq x.2-rq h.2<0 at h9;grind
      have sa:=S.H9;rw[hB] at sa;let⟨a1,a2,a3⟩:=LK.1 sa;let⟨a4,a5⟩:=JF.1 a2;refine Hf _ ⟨⟨LK.2 ⟨a1,JF.2 ⟨λy my=>?_,a5⟩,λy my z mz=>?_⟩,λy my=>?_,λy my=>?_⟩,?_⟩
      .show JZ x.1 y.1;rw[<-he];exact a4 y my
      .rcases Aq.1 mz with e|m
       .rw[e];show JZ y.1 x.1;rw[<-he];exact a3 y my h AX
       .exact a3 y my z<|By _ m
      .have:y∈s\/y=x:=by rw[hB];simp at my⊢;rcases my with m|m|m<;>simp[m]
       rcases this with m|m
       .exact IB _<|S.sub y m
       .rw[m];simp
      .rcases C3.1 my with m|m
       .let⟨g,mg,c1,c2⟩:=S.le y m;rw[hB] at mg;rcases C3.1 mg with mg|mg
        .exact⟨g,by simp[mg],c1,c2⟩
        .rcases Aq.1 mg with e|mg
         .rw[e] at c1 c2;exact⟨x,AX,by rw[<-c1,he],ZF (GS hlt) c2⟩
         .exact⟨g,by simp[mg],c1,c2⟩
       .rw[Cn.1 m];exact⟨x,AX,rfl,GR⟩
      .rw[hB] at sl;simp at sl⊢;omega
     .have Lb:rq h.2<=rq x.2:=by have h9:=Bg hc;change¬rq x.2-rq h.2<0 at h9;grind
      refine Hf _ ⟨⟨S.H9,λy my=>IB _<|S.sub y my,λy my=>?_⟩,DD⟩;rcases C3.1 my with m|m
      .exact S.le y m
      .rw[Cn.1 m];exact⟨h,mh,he,Lb⟩
    .have hne:=Bg he;have hxh:HF x h:=((qM h.1 x.1).resolve_left hne).resolve_left hnb;have s1:C6 s 0 (B.length:Int)=some B:=by rw[E5 A4 A4 A4,hB];simp
     have s2:C6 s (B.length:Int) (s.length:Int)=some (h::D):=by rw[E5 A4 A4 A4];simp;rw[hB];simp
     have a0:∀(u v:A3 BZ),u.length+v.length<=100->BG 40 u v=some (u++v):=λu v huv=>by unfold BG;rw[B4 (show(u.length+v.length)*40<=140737488355328 by omega),B4 (show u.length+v.length<=9223372036854775807 by omega)];rfl
     have dl:s.length=B.length+(D.length+1):=by rw[hB];simp
     refine A6 s1<|A6 (a0 [] B DD)<|A6 (Bn hA)<|A6 (a0 _ _ DD)<|A6 s2<|A6 (a0 _ _ DD)<|h5 _ ?_
     rw[K7];refine put B (h::D) hB hQ λy my=>?_
     rcases Aq.1 my with e|m
     .rw[e];exact hxh
     .have sa:=S.H9;rw[hB] at sa;exact aQ hxh<|(JF.1 (LK.1 sa).2.1).1 y m
  .have hg:gd (decide<|(s.length:Int)<(s.length:Int)) true=false:=by rw[CP];rfl
   rw[Ep hg,Ep hg,Ep hg,Ep hg];rw[CP,QY,As];rw[CP] at hg;rw[Ep hg,Ep hg,Ep hg,QY,As];have s1:C6 s 0 (s.length:Int)=some s:=by rw[E5 A4 A4 A4];simp
   have s2:C6 s (s.length:Int) (s.length:Int)=some []:=by rw[E5 A4 A4 A4];simp
   have a0:∀(u v:A3 BZ),u.length+v.length<=100->BG 40 u v=some (u++v):=λu v huv=>by unfold BG;rw[B4 (show(u.length+v.length)*40<=140737488355328 by omega),B4 (show u.length+v.length<=9223372036854775807 by omega)];rfl
   refine A6 s1<|A6 (a0 [] s DD)<|A6 (Bn hA)<|A6 (a0 _ _ DD)<|A6 s2<|A6 (a0 _ _ DD)<|h5 _ ?_
   rw[K7];exact put s [] AX hQ AX
 .dsimp;rw[CP,As];exact AU hP
theorem agj(o:∀h∈l,Bs h)(hl:l.length<=100000000)(hp:D6 n p)(hn:n<=5000):Yd (λb=>b=true↔Mem (l.map rh) p) (bp l<|Bx p):=by
 have mm:∀{h:BZ},h∈l->rh h∈l.map rh:=λmh=>BU.2 ⟨_,mh,rfl⟩
 unfold bp;refine CB l (λ(_:Unit) i=>i) (λA _=>∀h∈A,val (rh h) p<=0) (λA x C s k hA hP next=>?_) (λs k hP=>?_) (s0:=()) AX A4
 .rw[CE hA,BI];refine A6 (Bn hA)<|A6 (qg (o x<|at_mem hA) hp hn) ?_
  rw[Yi];refine Ac (λhc=>AU ⟨λc=>(by cases c),λc=>?_⟩) λhc=>A6 (C7 hA A4)<|next () λh mh=>?_
  .have:=c _ (mm<|at_mem hA);have:=Ar hc
   grind
  .grind
 .rw[CP,As];refine AU ⟨λ_ g mg=>?_,λ_=>rfl⟩;obtain⟨h,mh,rfl⟩:=BU.1 mg;exact hP h mh
theorem age(hl:C.length<=100000000)(hC:∀q∈C,D6 n q)(hp:D6 n p)(hn:n<=5000):Uv (C.map Bx) (Bx p)=some (decide<|p∈C):=by
 have key:Yd (λb=>b=decide (p∈C)) (Uv (C.map Bx)<|Bx p):=by
  unfold Uv;refine CB (C.map Bx) (λ(_:Unit) i=>i) (λA _=>Bx p∉A) (λA x D s k hA hP next=>?_) (λs k hP=>?_) (s0:=()) AX DD
  .rw[CE hA,BI];refine A6 (Bn hA)<|Ac (λhc=>AU (B4 ?_).symm) λhc=>A6 (C7 hA DD)<|next () λc=>?_
   .let⟨q,mq,e⟩:=BU.1 (at_mem hA);have e2:=Ar hc;have:q=p:=aoh (hC q mq) hp A4 A4 (by rw[e,e2]);rw[<-this];exact mq
   .grind
  .rw[CP,As];exact AU (Bo λc=>hP<|BU.2 ⟨p,c,rfl⟩).symm
 obtain⟨r,e,rfl⟩:=key;exact e
theorem xt{l:A3 α}:l.Sublist (A++[x])↔l.Sublist A\/∃r,l=r++[x]/\r.Sublist A:=by
 rw[Zc];constructor
 .grind
 .rintro(h|⟨r,rfl,h⟩)
  .exact⟨l,[],AX,h,AX⟩
  .grind
theorem nW{a b c:α}:[c,b,a].Sublist (A++[x])↔[c,b,a].Sublist A\/(a=x/\[c,b].Sublist A):=by
 rw[xt];refine or_congr Iff.rfl ⟨?_,?_⟩
 .rintro⟨r,e,h⟩;have e2:[c,b]++[a]=r++[x]:=e;let⟨e3,e4⟩:=ZP e2 rfl;cases e4;rw[<-e3] at h;exact⟨rfl,h⟩
 .grind
def nX{b c:α}:[c,b].Sublist (A++[x])↔[c,b].Sublist A\/(b=x/\c∈A):=by
 rw[xt];refine or_congr Iff.rfl ⟨?_,?_⟩
 .rintro⟨r,e,h⟩;have e2:[c]++[b]=r++[x]:=e;let⟨e3,e4⟩:=ZP e2 rfl;cases e4;rw[<-e3] at h;exact⟨rfl,List.singleton_sublist.1 h⟩
 .rintro⟨rfl,h⟩;exact⟨[c],rfl,List.singleton_sublist.2 h⟩
def Met(a b c:BZ)(p:Q3):Prop:=EP (rh a).1 (rh b).1 (rh c).1≠0/\p=Im (rh a) (rh b) (rh c)
def Tri(A:A3 BZ)(p:Q3):Prop:=∃a b c,[c,b,a].Sublist A/\Met a b c p
def Duo(x:BZ)(B:A3 BZ)(p:Q3):Prop:=∃b c,[c,b].Sublist B/\Met x b c p
def Uno(x y:BZ)(D:A3 BZ)(p:Q3):Prop:=∃c∈D,Met x y c p
def ajr{A:A3 BZ}{x:BZ}:Tri (A++[x]) p↔Tri A p\/Duo x A p:=by
 constructor
 .rintro⟨a,b,c,h,m⟩;rcases nW.1 h with h2|⟨e,h2⟩
  .exact .inl ⟨a,b,c,h2,m⟩
  .rw[e] at m;exact .inr ⟨b,c,h2,m⟩
 .rintro(⟨a,b,c,h,m⟩|⟨b,c,h,m⟩)
  .exact⟨a,b,c,nW.2<| .inl h,m⟩
  .exact⟨x,b,c,nW.2<| .inr ⟨rfl,h⟩,m⟩
def alD{x:BZ}{B:A3 BZ}{y:BZ}:Duo x (B++[y]) p↔Duo x B p\/Uno x y B p:=by
 constructor
 .rintro⟨b,c,h,m⟩;rcases nX.1 h with h2|⟨e,h2⟩
  .exact .inl ⟨b,c,h2,m⟩
  .rw[e] at m;exact .inr ⟨c,h2,m⟩
 .rintro(⟨b,c,h,m⟩|⟨c,h,m⟩)
  .exact⟨b,c,nX.2<| .inl h,m⟩
  .exact⟨y,c,nX.2<| .inr ⟨rfl,h⟩,m⟩
def oH{x y:BZ}{D:A3 BZ}{z:BZ}:Uno x y (D++[z]) p↔Uno x y D p\/Met x y z p:=by unfold Uno;simp[C3,ZE,exists_or]
def Crs(l:A3 BZ)(X:Q3->Prop)(out:A3 T3):Prop:=∃C:A3 Q3,out=C.map Bx/\C.Nodup/\(∀p∈C,D6 500 p)/\C.length<=l.length*(l.length*l.length)/\∀p,p∈C↔Mem (l.map rh) p/\X p
theorem Crs.congr{X Y:Q3->Prop}{out:A3 T3}(h:Crs l X out)(e:∀p,X p↔Y p):Crs l Y out:=by grind [Crs]
theorem afX(o:∀h∈l,Bs h)(hl:l.length<=50):Yd (λr=>Crs l (Tri l) r) (ba l):=by
 have arz:l.length*(l.length*l.length)<=125000:=HD hl<|HD hl hl
 have inl:∀{A C:A3 BZ} {x:BZ},l=A++x::C->(∀y∈A,y∈l):=λh y my=>by rw[h];exact IB _ my
 unfold ba;refine CB l (λ(s:A3 T3) i=>(s,i)) (λA s=>Crs l (Tri A) s) (λA x C s k hA hP next=>?_) (λs k hP=>?_) (s0:=[]) ⟨[],rfl,List.nodup_nil,AX,AX,λp=>by simp[Tri]⟩ A4
 .dsimp;rw[CE hA,BI];have al:=Cz hA;refine CB A (λ(t:A3 T3) i=>(t,i)) (λB t=>Crs l (λp=>Tri A p\/Duo x B p) t) (λB y D t k2 hB hQ Fp=>?_) (λt k2 hQ=>?_) (s0:=s) (hP.congr λp=>by simp[Duo]) A4
  .dsimp;rw[CE hB,BI];have bl:=Cz hB;have hB':l=B++y::(D++x::C):=by rw[hA,hB];simp
   refine CB B (λ(u:A3 T3) i=>(u,i)) (λE u=>Crs l (λp=>(Tri A p\/Duo x B p)\/Uno x y E p) u) (λE z F u k3 hE hR Nk=>?_) (λu k3 hR=>?_) (s0:=t) (hQ.congr λp=>by simp[Uno]) A4
   .dsimp;rw[CE hE,BI];have el:=Cz hE;have hE':l=E++z::(F++y::(D++x::C)):=by rw[hB',hE];simp
    have ox:=o x<|at_mem hA
    have oy:=o y<|at_mem hB'
    have oz:=o z<|at_mem hE'
    refine DI (λu'=>Crs l (λp=>(Tri A p\/Duo x B p)\/Uno x y (E++[z]) p) u') (λu' h'=>A6 (C7 hE A4)<|Nk u' h') λM5 Bb=>?_
    refine A6 (Bn hA)<|A6 (Bn hB')<|A6 (Bn hE')<|A6 (ahW ox oy oz) ?_
    let⟨W,w1,w2,w3,w4,w5⟩:=hR;by_cases hd:EP (rh x).1 (rh y).1 (rh z).1=0
    .rw[B4 hd,BI];refine Bb u ⟨W,w1,w2,w3,w4,λp=>?_⟩;rw[w5];dsimp;rw[oH];have: ¬Met x y z p:=λm=>m.1 hd
     simp[this]
    .rw[Bo hd,As];have lp:=amT ox oy oz hd;have hm:∀p,Met x y z p↔p=Im (rh x) (rh y) (rh z):=λp=>⟨λm=>m.2,λe=>⟨hd,e⟩⟩
     have hv:Mem (l.map rh) (Im (rh x) (rh y)<|rh z)->∀q,q∈W++[Im (rh x) (rh y)<|rh z]↔Mem (l.map rh) q/\((Tri A q\/Duo x B q)\/Uno x y (E++[z]) q):=λhc q=>by
      rw[C3,w5,oH,hm,Cn];constructor
      .grind
      .grind
     generalize Im (rh x) (rh y) (rh z)=v at*
     refine Ap (agj o A4 lp A4) λb hb=>?_
     cases b with
     |false=>
      refine Bb u ⟨W,w1,w2,w3,w4,λp=>?_⟩;rw[w5];dsimp;rw[oH,hm];constructor
      .grind
      .grind
     |true=>
      have hc:=hb.1 rfl;show Yd _ (bd (Uv u<|Bx v) _);rw[w1];refine A6 (age A4 w3 lp A4) ?_;by_cases hw:v∈W
      .rw[B4 hw];refine Bb _ ⟨W,rfl,w2,w3,w4,λp=>?_⟩;have:=hv hc p;rw[<-this,C3,Cn];exact⟨.inl,λh=>h.elim id λe=>by rw[e];exact hw⟩
      .rw[Bo hw];show Yd _ (bd (BG 48 _ _) _);have nd:(W++[v]).Nodup:=AL;refine A6 (app_1 A4 (by rw[Be];omega))<|Bb _ ⟨W++[v],AX,nd,λp mp=>?_,?_,hv hc⟩
       .grind
       .have e:l.length=(l.map rh).length:=(Be _).symm;rw[e];refine p9 nd λp mp=>?_
        let⟨a,b⟩:=(hv hc p).1 mp;have met:∀{a b c:BZ},a∈l->b∈l->c∈l->Met a b c p->Br (l.map rh) p:=λ{a' b' c'} ma mb mc m=>Yf.2 ⟨a,_,BU.2 ⟨_,ma,rfl⟩,_,BU.2 ⟨_,mb,rfl⟩,_,BU.2 ⟨_,mc,rfl⟩,m.1,m.2⟩
        rcases b with(⟨a',b',c',s,m⟩|⟨b',c',s,m⟩)|⟨c',mc,m⟩
        .exact met (inl hA _<|s.subset AX) (inl hA _<|s.subset AX) (inl hA _<|s.subset AX) m
        .exact met (at_mem hA) (inl hB' _<|s.subset AX) (inl hB' _<|s.subset AX) m
        .grind
   .dsimp;rw[CP,As];exact A6 (C7 hB A4) (Fp u (hR.congr λp=>by rw[alD,or_assoc]))
  .dsimp;rw[CP,As];exact A6 (C7 hA A4) (next t (hQ.congr λp=>by rw[ajr]))
 .dsimp;rw[CP,As];exact AU hP
def alf:Mem (l.map rh) p/\Tri l p↔Br (l.map rh) p:=by
 rw[ahy];refine and_congr Iff.rfl ⟨?_,?_⟩
 .rintro⟨a,b,c,s,m⟩;exact⟨rh a,rh b,rh c,s.map rh,m.1,m.2⟩
 .rintro⟨a,b,c,s,m⟩;let⟨r,hr,e⟩:=List.sublist_map_iff.1 s
  match r,e with
  |[c',b',a'],e=>simp[MK,ZH,List.cons.injEq,and_true] at e;obtain⟨rfl,rfl,rfl⟩:=e;exact⟨a',b',c',hr,m⟩
def ajw(hC:∀p∈C,D6 500 p)(hl:C.length<=100000000):Yd (λr=>(r<3/\∃m:Q3,m≠o3/\∃c,∀p∈C,AM m p=c)\/(r=3/\∃a∈C,∃b∈C,∃c∈C,∃d∈C,EP (BE b a) (BE c a) (BE d a)≠0)) (dY<|C.map Bx):=by
 unfold dY;rw[Be];cases C with
 |nil=>exact AU<| .inl ⟨Le,_,Yy,0,AX⟩
 |cons a T=>
  rw[Bo (show¬((a::T).length:Int)=0 by simp;omega),As];refine iu (a::T) (λ(s:T3×T3×Int) i=>(s.1,s.2.1,s.2.2,i)) (λA s=>∃u n:Q3,IF a (a::T) A u n s.2.2/\(s.2.2=1->s.1=Bx u/\D6 1001 u)/\(s.2.2=2->s.2.1=Bx n/\D6 4005 n)) (λA p D s k hA hP next=>?_) (λs k hP=>?_) [a] T (s0:=(([],[],[]),([],[],[]),0)) rfl ⟨o3,o3,.inl ⟨rfl,AX⟩,λh=>by simp at h,λh=>by simp at h⟩ A4
  .dsimp only;rw[CE hA,BI];have mp:=at_mem hA;have lp:=hC p mp;have la:=hC a Dc;have ld:=zw lp la;let⟨u,n,h,h1,h2⟩:=hP;refine DI (λs':T3×T3×Int=>∃u n:Q3,IF a (a::T) (A++[p]) u n s'.2.2/\(s'.2.2=1->s'.1=Bx u/\D6 1001 u)/\(s'.2.2=2->s'.2.1=Bx n/\D6 4005 n)) (λs' h'=>A6 (C7 hA A4)<|next s' h') λk6 h6=>?_
   have ix:AB ((a::T).map Bx) (A.length:Int)=some (Bx p):=by have:=Bn hA;rw[JO] at this⊢;rw[Gy,this];rfl
   refine A6 ix<|A6 (x:=Bx a) rfl<|A6 (abD lp la A4) ?_
   have atp:s.2.2=0\/s.2.2=1\/s.2.2=2:=by rcases h with⟨e,_⟩|⟨e,_⟩|⟨e,_⟩<;>simp[e]
   let⟨s1,s2,dim⟩:=s;dsimp only at*;rcases atp with rfl|rfl|rfl
   .rw[show gd (decide<|(0:Int)=0) true=true from rfl,Cs rfl];refine A6 (qf ld A4) ?_;by_cases e:BE p a=o3
    .rw[B4 e];exact h6 (s1,s2,0) ⟨u,n,h.s0 e,λh=>by simp at h,λh=>by simp at h⟩
    .rw[Bo e];exact h6 (Bx<|BE p a,s2,1) ⟨_,n,h.s01 mp e,λ_=>⟨rfl,QN ld A4⟩,λh=>by simp at h⟩
   .let⟨e1,l1⟩:=h1 rfl;subst e1;have lc:=PM l1 ld;show Yd _ (bd (NI (Bx u)<|Bx<|BE p a) _);refine A6 (WO l1 ld A4) ?_;rw[show gd (decide<|(1:Int)=1) true=true from rfl,Cs rfl];refine A6 (qf lc A4) ?_;by_cases e:Ah u (BE p a)=o3
    .rw[B4 e];exact h6 (Bx u,s2,1) ⟨u,n,h.s1 e,λ_=>⟨rfl,l1⟩,λh=>by simp at h⟩
    .rw[Bo e];show Yd _ (bd (NI (Bx u)<|Bx<|BE p a) _);exact A6 (WO l1 ld A4) (h6 (Bx u,Bx<|Ah u<|BE p a,2) ⟨u,_,h.EF mp e,λh=>by simp at h,λ_=>⟨rfl,QN lc A4⟩⟩)
   .let⟨e1,l1⟩:=h2 rfl;subst e1;show Yd _ (bd (RX (Bx n)<|Bx<|BE p a) _);refine A6 (jY l1 ld A4) ?_;rw[show gd (decide<|(2:Int)=2) true=true from rfl,Cs rfl];refine A6 (yq (aJ l1 ld) A4) ?_;by_cases e:AM n (BE p a)=0
    .rw[B4 e];exact h6 (s1,Bx n,2) ⟨u,n,h.s2 e,λh=>by simp at h,λ_=>⟨rfl,l1⟩⟩
    .rw[Bo e];let⟨b,mb,c,mc,hd⟩:=h.s3 e;exact AU<| .inr ⟨rfl,a,Dc,b,mb,c,mc,p,mp,hd⟩
  .dsimp only;rw[CP,As];let⟨u,n,h,_⟩:=hP;let⟨m,m0,hm⟩:=h.flat;refine AU<| .inl ⟨?_,m,m0,_,hm⟩
   rcases h with⟨e,_⟩|⟨e,_⟩|⟨e,_⟩<;>rw[e]<;>decide
def Gt(C:A3 Q3)(h:H3):Nat:=(C.filter λp=>decide<|val h p=0).length
structure KV(hs:A3 BZ)(p:Q3)(o:A3 Int):Prop where
 nd:o.Nodup
 iff:∀j:Int,j∈o↔∃(m:Nat) (h:BZ),j=(m:Int)/\hs[m]? =some h/\val (rh h) p=0
def KV.len{hs:A3 BZ}{o:A3 Int}(h:KV hs p o):o.length<=hs.length:=by
 have:=Ml (l:=o) (T:=(List.range hs.length).map λm:Nat=>(m:Int)) h.nd λj mj=>by let⟨m,x,e,hx,_⟩:=(h.iff j).1 mj;exact BU.2 ⟨m,Qa.2 (FH.1 hx).1,e.symm⟩
 simpa using this
theorem KV.at{hs:A3 BZ}{o:A3 Int}(h:KV hs p o){m:Nat}{x:BZ}(hx:hs[m]? =some x):(m:Int)∈o↔val (rh x) p=0:=by
 rw[h.iff];constructor
 .grind
 .grind
theorem afM(o:∀h∈l,Bs h)(hl:l.length<=50)(hp:D6 500 p):Yd (λr=>KV l p r) (bo l<|Bx p):=by
 unfold bo;refine CB l (λ(s:A3 Int) i=>(s,i)) (λA s=>KV A p s) (λA x C s k hA hP next=>?_) (λs k hP=>?_) (s0:=[]) ⟨List.nodup_nil,λj=>by simp⟩ A4
 .dsimp;rw[CE hA,BI];have al:=Cz hA;have sl:=hP.len;have FW:∀j:Int,(∃(m:Nat) (h:BZ),j=(m:Int)/\(A++[x])[m]? =some h/\val (rh h) p=0)↔j∈s\/(j=(A.length:Int)/\val (rh x) p=0):=λj=>by
   rw[hP.iff];constructor
   .rintro⟨m,h,e,hm,t⟩;by_cases hlt:m<A.length
    .grind
    .grind
   .rintro(⟨m,h,e,hm,t⟩|⟨e,t⟩)
    .grind
    .exact⟨A.length,x,e,AX,t⟩
  refine DI (λs':A3 Int=>KV (A++[x]) p s') (λs' h'=>A6 (C7 hA A4)<|next s' h') λk5 h5=>?_
  refine A6 (Bn hA)<|A6 (qg (o x<|at_mem hA) hp A4) ?_
  rw[sign_zero];refine Ac (λhc=>A6 (app_1 A4 A4)<|h5 _ ⟨?_,λj=>?_⟩) λhc=>h5 _ ⟨hP.nd,λj=>?_⟩
  .rw[U4];refine⟨hP.nd,AX,λa ma b mb e=>?_⟩;let⟨m,h,e1,hm,_⟩:=(hP.iff a).1 ma;rw[Cn.1 mb] at e;have:=(FH.1 hm).1;omega
  .grind
  .grind
 .dsimp;rw[CP,As];exact AU hP
theorem xB{a b:A3 Int}(hb:b.Nodup)(ha:a.length<=100)(hbl:b.length<=100):Xh a b=some (a.filter λx=>decide<|x∈b):=by
 refine Fz ?_;unfold Xh;refine CB a (λ(s:A3 Int) i=>(s,i)) (λA s=>s=A.filter λx=>decide<|x∈b) (λA x C s k hA hP next=>?_) (λs k hP=>?_) (s0:=[]) rfl A4
 .dsimp;rw[CE hA,BI];have al:=Cz hA;have sl:s.length<=A.length:=AL;refine CB b (λ(t:A3 Int) i=>(t,i)) (λB t=>t=s++(bif decide (x∈B) then [x] else [])) (λB y D t k2 hB hQ Fp=>?_) (λt k2 hQ=>?_) (s0:=s) AX A4
  .dsimp;rw[CE hB,BI];refine DI (λt':A3 Int=>t'=s++(bif decide (x∈B++[y]) then [x] else [])) (λt' h'=>A6 (C7 hB A4)<|Fp t' h') λk8 h8=>?_
   refine A6 (Bn hA)<|A6 (Bn hB)<|Ac (λhc=>?_) λhc=>h8 _ ?_
   .have e:=Ar hc;have hnb:x∉B:=λmx=>by rw[hB,U4] at hb;exact hb.2.2 x mx y Dc e
    have t0:t=s:=by rw[hQ];simp[hnb]
    refine A6 (Bn hA) (A6 (app_1 A4 (by rw[t0];omega))<|h8 _ ?_);rw[t0,B4 (show x∈B++[y] by simp[e])];rfl
   .grind
  .dsimp;rw[CP,As];refine A6 (C7 hA A4)<|next t ?_
   rw[hQ,hP,WG];cases hd:decide (x∈b)<;>simp[hd]
 .dsimp;rw[CP,As];exact AU hP
abbrev ZL:=A3<|Q3×A3 Int
theorem ajL(o:∀h∈l,Bs h)(hl:l.length<=50)(hC:∀p∈C,D6 500 p)(hn:C.length<=1000000):Yd (λr=>r.1=(l.filter λh=>decide<|3<=Gt C (rh h))/\r.2.1=C.map Bx/\∃Z:ZL,Z.map (·.1)=C/\r.2.2=Z.map (·.2)/\∀z∈Z,KV r.1 z.1 z.2) (dZ l<|C.map Bx):=by
 have cm:(C.map Bx).length=C.length:=Be _;unfold dZ;refine CB l (λ(s:A3 BZ×A3 T3×A3 (A3 Int)) i=>(s,i)) (λA s=>s.1=(A.filter λh=>decide<|3<=Gt C (rh h))/\s.2.2=[]) (λA x D s k hA hP next=>?_) (λs k hP=>?_) (s0:=([],[],[])) ⟨rfl,rfl⟩ A4
 .dsimp;rw[CE hA,BI];have al:=Cz hA;have ox:=o x<|at_mem hA
  refine DI (λs':A3 BZ×A3 T3×A3 (A3 Int)=>s'.1=((A++[x]).filter λh=>decide<|3<=Gt C (rh h))/\s'.2.2=[]) (λs' h'=>A6 (C7 hA A4)<|next s' h') λk5 h5=>?_
  refine CB C (λ(t:Int) i=>(t,i)) (λB t=>t=(Gt B (rh x):Int)) (λB p E t k7 hB hQ Fp=>?_) (λt k7 hQ=>?_) (s0:=0) rfl A4
  .dsimp;rw[cm,CE hB,BI];have bl:=Cz hB;have ix:AB (C.map Bx) (B.length:Int)=some (Bx p):=by have:=Bn hB;rw[JO] at this⊢;rw[Gy,this];rfl
   have cb:Gt B (rh x)<=B.length:=List.length_filter_le _ _;refine DI (λt':Int=>t'=(Gt (B++[p]) (rh x):Int)) (λt' h'=>A6 (C7 hB A4)<|Fp t' h') λKI BO=>?_
   have ca:Gt (B++[p]) (rh x)=Gt B (rh x)+bif decide (val (rh x) p=0) then 1 else 0:=by unfold Gt;rw[WG,E7];cases hd:decide (val (rh x) p=0)<;>simp[hd]
   refine A6 (Bn hA)<|A6 ix<|A6 (qg ox (hC p<|at_mem hB) A4) ?_
   rw[sign_zero];refine Ac (λhc=>A6 B9 (BO _ (by rw[ca,hc,hQ];simp))) λhc=>BO _ (by rw[ca,hc,hQ];simp)
  .dsimp;rw[cm,CP,As];have e:decide (3<=t)=decide (3<=Gt C (rh x)):=HX.2 A4;rw[e];have fl:s.1.length<=A.length:=AL;refine Ac (λhc=>A6 (Bn hA)<|A6 (app_1 A4 A4)<|h5 _ ⟨?_,hP.2⟩) λhc=>h5 _ ⟨?_,hP.2⟩
   .grind
   .grind
 .dsimp;rw[CP,As];have os:∀h∈s.1,Bs h:=λh mh=>o h (by rw[hP.1] at mh;exact(JE.1 mh).1)
  have sl:s.1.length<=l.length:=AL;refine CB C (λ(t:A3 (A3 Int)) i=>((s.1,C.map Bx,t),i)) (λB t=>∃Z:ZL,Z.map (·.1)=B/\t=Z.map (·.2)/\∀z∈Z,KV s.1 z.1 z.2) (λB p E t k7 hB hQ Fp=>?_) (λt k7 hQ=>?_) (s0:=s.2.2) ⟨[],rfl,by rw[hP.2];rfl,AX⟩ A4
  .dsimp;rw[cm,CE hB,BI];have bl:=Cz hB;have ix:AB (C.map Bx) (B.length:Int)=some (Bx p):=by have:=Bn hB;rw[JO] at this⊢;rw[Gy,this];rfl
   let⟨Z,z1,z2,z3⟩:=hQ;have tl:t.length=B.length:=AL;refine A6 ix (Ap (afM os A4<|hC p<|at_mem hB) λr hr=>A6 (app_1 A4 A4) (A6 (C7 hB A4) (Fp _ ⟨Z++[(p,r)],by simp[z1],by simp[z2],λz mz=>?_⟩)));rcases C3.1 mz with m|m
   .exact z3 z m
   .grind
  .dsimp;rw[cm,CP,As];exact AU ⟨hP.1,rfl,hQ⟩
structure Rel(K:BZ->Prop)(l A:A3 BZ)(T:A3 Int)(hv:A3 BZ):Prop where
 len:T.length=l.length
 H9:hv.Pairwise HF
 mem:∀h,h∈hv↔h∈A/\K h
 at_:∀(j:Nat) (x:BZ),A[j]? =some x->∃t:Int,T[j]? =some t/\((¬K x/\t= -1)\/(K x/\∃m:Nat,t=(m:Int)/\hv[m]? =some x))
def fM{hv:A3 BZ}(h:hv.Pairwise HF):hv.Nodup:=List.Pairwise.imp (λ{a b} (k:HF a b) (e:a=b)=>Zi b.1 (by rw[e] at k;exact k)) h
theorem nt{l:A3 α}(h:l.Nodup){i j:Nat}(hi:l[i]? =some x)(hj:l[j]? =some x):i=j:=by
 let⟨b1,e1⟩:=FH.1 hi;let⟨b2,e2⟩:=FH.1 hj;have p:=Ze.1 h;rcases Nat.lt_trichotomy i j with c|c|c
 .grind
 .exact c
 .grind
def Yv(u v:A3 BZ)(h:u.length+v.length<=1000):BG 40 u v=some (u++v):=by unfold BG;rw[B4 (show(u.length+v.length)*40<=140737488355328 by omega),B4 (show u.length+v.length<=9223372036854775807 by omega)];rfl
def jE{l:A3 α}{i:Nat}(h:i<l.length):AB l (i:Int)=some l[i]:=by rw[JO];exact Gf h
def aby(l:A3 BZ)(Z:ZL)(cs:A3 T3)(r:A3 BZ×A3 T3×A3 (A3 Int)):Prop:=r.1.Pairwise HF/\(∀h,h∈r.1↔h∈l/\3<=Gt (Z.map (·.1)) (rh h))/\r.2.1=cs/\∃Z':ZL,Z'.map (·.1)=Z.map (·.1)/\r.2.2=Z'.map (·.2)/\∀z∈Z',KV r.1 z.1 z.2
theorem an0(hl:l.length<=60)(IV:l.Nodup){Z:ZL}(hZ:Z.length<=1000000000)(H6:∀z∈Z,KV l z.1 z.2){cs:A3 T3}
 (hd:∀x∈l,∀y∈l,3<=Gt (Z.map (·.1)) (rh x)->3<=Gt (Z.map (·.1)) (rh y)->x.1=y.1->x=y):Yd (aby l Z cs) (di l cs<|Z.map (·.2)):=by
 have zm:(Z.map (·.2)).length=Z.length:=Be _;have zl:∀z∈Z,z.2.length<=60:=λz mz=>Ct (H6 z mz).len hl
 unfold di;refine A6 (x:=List.replicate l.length 0) (by rw[Pt A4 A4 A4];simp) ?_;refine CB l (λ(s:A3 Int×A3 BZ) i=>(s.1,s.2,i)) (λA s=>Rel (λx=>3<=Gt (Z.map (·.1)) (rh x)) l A s.1 s.2) (λA x C s k hA hP next=>?_) (λs k hP=>?_) (s0:=(List.replicate l.length 0,[])) ⟨AX,List.Pairwise.nil,AX,AX⟩ A4
 .dsimp only;rw[CE hA,BI];have al:=Cz hA;have mx:=at_mem hA;have lx:l[A.length]? =some x:=by rw[hA];simp
  have hxA:x∉A:=λc=>by rw[hA,U4] at IV;exact IV.2.2 x c x Dc rfl
  obtain⟨t9,hv⟩:=s;dsimp only at hP⊢;have La:hv.length<=A.length:=Ml (fM hP.H9) λh mh=>((hP.mem h).1 mh).1
  refine DI (λs':A3 Int×A3 BZ=>Rel (λx=>3<=Gt (Z.map (·.1)) (rh x)) l (A++[x]) s'.1 s'.2) (λs' h'=>A6 (C7 hA A4)<|next s' h') λk7 h7=>?_
  refine CB Z (λ(t:Int) i=>(t,i)) (λB t=>t=(Gt (B.map (·.1)) (rh x):Int)) (λB z E t k9 hB hQ Fp=>?_) (λt k9 hQ=>?_) (s0:=0) rfl A4
  .dsimp;rw[zm,CE hB,BI];have bl:=Cz hB;have mz:=at_mem hB;have ix:AB (Z.map (·.2)) (B.length:Int)=some z.2:=by have:=Bn hB;rw[JO] at this⊢;rw[Gy,this];rfl
   have cb:Gt (B.map (·.1)) (rh x)<=B.length:=by
    have:=List.length_filter_le (λp=>decide<|val (rh x) p=0)<|B.map (·.1)
    rw[Be] at this;exact this
   refine DI (λt':Int=>t'=(Gt ((B++[z]).map (·.1)) (rh x):Int)) (λt' h'=>A6 (C7 hB A4)<|Fp t' h') λIQ Bu=>?_
   have ca:Gt ((B++[z]).map (·.1)) (rh x)=Gt (B.map (·.1)) (rh x)+bif decide (val (rh x) z.1=0) then 1 else 0:=by unfold Gt;rw[Ge,WG,E7];cases hd:decide (val (rh x) z.1=0)<;>simp[hd]
   refine A6 ix (A6 (xB (b:=[(A.length:Int)]) AX (by have:=zl z mz;omega) AX) ?_);have hlen:decide ((0:Int)<((z.2.filter λx=>decide<|x∈[(A.length:Int)]).length:Int))=decide (val (rh x) z.1=0):=by
    rw[HX,<-(H6 z mz).at lx];constructor
    .intro h;obtain⟨y,my⟩:=List.exists_mem_of_length_pos (show 0<(z.2.filter λx=>decide<|x∈[(A.length:Int)]).length by omega);obtain⟨m1,m2⟩:=JE.1 my;have:y=(A.length:Int):=by simpa using m2
     rw[<-this];exact m1
    .intro h;have:=List.length_pos_of_mem (JE.2 ⟨h,AX⟩:(A.length:Int)∈z.2.filter λx=>decide<|x∈[(A.length:Int)]);omega
   rw[hlen];refine Ac (λhc=>A6 B9 (Bu _ (by rw[ca,hc,hQ];simp))) λhc=>Bu _ (by rw[ca,hc,hQ];simp)
  .dsimp only;rw[zm,CP,As];have hi:A.length<t9.length:=by rw[hP.len];omega
   refine A6 (jE hi)<|A6 (jE hi) ?_
   have setAt:∀(v:Int) (j:Nat),j≠A.length->(t9.set A.length v)[j]? =t9[j]? :=λv j hj=>by rw[pz<|Ne.symm hj]
   refine Ac (λhc=>h7 _ ?_) λhc=>?_
   .have hk: ¬3<=Gt (Z.map (·.1)) (rh x):=by have:=Ar hc;omega
    rw[Cg];refine⟨by simp[hP.len],hP.H9,λh=>?_,λj y hj=>?_⟩
    .rw[hP.mem,C3,Cn];constructor
     .rintro⟨a,b⟩;exact⟨.inl a,b⟩
     .rintro⟨a|a,b⟩
      .exact⟨a,b⟩
      .rw[a] at b;exact absurd b hk
    .by_cases hj2:j<A.length
     .rw[MT hj2] at hj;rw[setAt _ _ A4];exact hP.at_ j y hj
     .grind
   .have hk:3<=Gt (Z.map (·.1)) (rh x):=by have:=Bg hc;omega
    have fin:∀B D:A3 BZ,hv=B++D->(∀h∈B,HF h x)->(∀h∈D,HF x h)->Yd (aby l Z cs)
      (BH (λNB (CA:A3 Int×Int)=>cond (decide<|CA.2<(A.length:Int)) (jn (λ(s43:(A3 Int))=>bd (AH<|CA.2+1) λKq=>NB (s43,Kq)) λk44=>bd (AB CA.1 CA.2) λLW=>bd (AB CA.1 CA.2) λKn=>cond (decide<|(B.length:Int)<=Kn) (bd (AB CA.1 CA.2) λHu=>bd (AB CA.1 CA.2) λGY=>bd (AH<|GY+1) λHv=>bd (AB CA.1 CA.2) λJs=>bd (AB CA.1 CA.2) λJR=>k44 (CA.1.set (CA.2).toNat Hv)) (k44 CA.1)) (bd (AB CA.1 (A.length:Int)) λIT=>bd (AB CA.1 (A.length:Int)) λMe=>bd (C6 hv 0 (B.length:Int)) λx66=>bd (BG 40 ([]:A3 ((Int×Int×Int)×AD)) x66) λx68=>bd (AB l (A.length:Int)) λx70=>bd (BG 40 x68 ([x70]:A3 ((Int×Int×Int)×AD))) λx72=>bd (C6 hv (B.length:Int) (hv.length:Int)) λJS=>bd (BG 40 x72 JS) λx76=>k7 ((CA.1.set ((A.length:Int)).toNat (B.length:Int)),x76))) ((t9.set ((A.length:Int)).toNat<| -1),0)):=λB D e hb hdd=>by
     rw[Cg];have bl:B.length<=hv.length:=by rw[e];simp
     have dl:hv.length=B.length+D.length:=by rw[e];simp
     refine CB A (λ(T:A3 Int) i=>(T,i)) (λG T=>T.length=l.length/\∀j:Nat,T[j]? =(if j<G.length then((t9.set A.length<| -1)[j]?).map (λt=>bif decide ((B.length:Int)<=t) then t+1 else t) else(t9.set A.length<| -1)[j]?)) (λG y E T NB hG hT Nk=>?_) (λT NB hT=>?_) (s0:=t9.set A.length<| -1) ⟨by simp[hP.len],λj=>by simp⟩ A4
     .dsimp only;rw[CE hG,BI];have gl:=Cz hG;have yA:A[G.length]? =some y:=by rw[hG];simp
      obtain⟨t,t1,t2⟩:=hP.at_ _ _ yA;have T0:T[G.length]? =some t:=by rw[hT.2,if_neg A4,setAt _ _ A4,t1]
      have tb: -1<=t/\t<=1000:=by
       rcases t2 with⟨_,e⟩|⟨_,m,e,hm⟩
       .omega
       .have:=(FH.1 hm).1;omega
      have iT:AB T (G.length:Int)=some t:=by rw[JO];exact T0
      have gT:G.length<T.length:=(FH.1 T0).1;refine DI (λT':A3 Int=>T'.length=l.length/\∀j:Nat,T'[j]? =(if j<(G++[y]).length then((t9.set A.length<| -1)[j]?).map (λt=>bif decide ((B.length:Int)<=t) then t+1 else t) else(t9.set A.length<| -1)[j]?)) (λT' h'=>A6 (C7 hG A4)<|Nk T' h') λk44 IX=>?_
      have z0:(t9.set A.length<| -1)[G.length]? =some t:=by rw[setAt _ _ A4,t1]
      refine A6 iT (A6 iT (Ac (λhc=>A6 iT (A6 iT (A6 B9 (A6 iT (A6 iT (IX _ ⟨by simp[hT.1],λj=>?_⟩)))))) λhc=>IX _ ⟨hT.1,λj=>?_⟩))
      .rw[Cg];by_cases hj:j=G.length
       .subst hj;rw[WK gT,if_pos AX,z0];simp[Pb,hc,BI]
       .grind
      .by_cases hj:j=G.length
       .subst hj;rw[T0,if_pos AX,z0];simp[Pb,hc,As]
       .rw[hT.2];have:(j<G.length)=(j<(G++[y]).length):=propext DD;simp[this]
     .dsimp;rw[CP,As];have iT:A.length<T.length:=by rw[hT.1];omega
      have s1:C6 hv 0 (B.length:Int)=some B:=by rw[E5 A4 A4 A4,e];simp
      have s2:C6 hv (B.length:Int) (hv.length:Int)=some D:=by rw[E5 A4 A4 A4];simp;rw[e];simp
      refine A6 (jE iT)<|A6 (jE iT)<|A6 s1<|A6 (Yv [] B DD)<|A6 (Bn hA)<|A6 (Yv _ _ DD)<|A6 s2<|A6 (Yv _ _ DD)<|h7 _ ?_
      rw[K7];have sa:=hP.H9;rw[e] at sa;obtain⟨a1,a2,a3⟩:=LK.1 sa;refine⟨by simp[hT.1],LK.2 ⟨LK.2 ⟨a1,SC _ _,λh mh y my=>by rw[Cn.1 my];exact hb h mh⟩,a2,λh mh y my=>?_⟩,λh=>?_,λj y hj=>?_⟩
      .rcases C3.1 mh with m|m
       .exact a3 h m y my
       .rw[Cn.1 m];exact hdd y my
      .have hm:=hP.mem h;rw[e,C3] at hm;simp only[C3,Cn];constructor
       .grind
       .grind
      ·
       by_cases hj2:j<A.length
       .rw[MT hj2] at hj;obtain⟨t,t1,t2⟩:=hP.at_ j y hj;rw[pz A4,hT.2,if_pos hj2,setAt _ _ A4,t1];refine⟨_,rfl,?_⟩;rcases t2 with⟨n,e2⟩|⟨n,m,e2,hm⟩
        .left;refine⟨n,?_⟩;rw[e2];dsimp;rw[decide_eq_false A4];rfl
        .right;refine⟨n,?_⟩;rw[e] at hm;by_cases hbm:B.length<=m
         .refine⟨m+1,by rw[e2];dsimp;rw[decide_eq_true A4];rfl,?_⟩;rw[My hbm] at hm;rw[My (by simp<;>omega)];have:m+1-(B++[x]).length=m-B.length:=AX;rw[this];exact hm
         .grind
       .have:j=A.length:=by have:=(FH.1 hj).1;simp at this;omega
        subst this;simp at hj;refine⟨(B.length:Int),by rw[WK iT],.inr ⟨by rw[<-hj];exact hk,B.length,rfl,?_⟩⟩;rw[HY,My<|BK _];simp[hj]
    refine CB hv (λ(_:Unit) i=>i) (λB _=>∀h∈B,HF h x) (λB h D t Ko hB hQ2 Nk=>?_) (λt Ko hQ2=>?_) (s0:=()) AX A4
    .have hg:gd (decide<|(B.length:Int)<(hv.length:Int)) true=true:=by rw[CE hB];rfl
     have bl:=Cz hB;have mh:=at_mem hB;rw[Cs hg];refine A6 (Bn hB) ?_;rw[Cs hg];refine A6 (Bn hB) ?_;rw[Cs hg];refine A6 (Bn hA) ?_;rw[Cs hg];refine A6 (nE h.1 x.1) ?_;rw[CE hB,Lq];refine Ac (λhc=>A6 (C7 hB A4)<|Nk () λg mg=>?_) λhc=>fin B (h::D) hB hQ2 λy my=>?_
     .rcases C3.1 mg with m|m
      .exact hQ2 g m
      .rw[Cn.1 m];exact Ar hc
     .have hnb:=Bg hc;obtain⟨hA',hK⟩:=(hP.mem h).1 mh;have hne:h.1≠x.1:=λe=>hxA (by rw[<-hd h (by rw[hA];exact IB _ hA') x mx hK hk e];exact hA')
      have hxh:HF x h:=((qM h.1 x.1).resolve_left hne).resolve_left hnb;rcases Aq.1 my with e|m
      .rw[e];exact hxh
      .have sa:=hP.H9;rw[hB] at sa;exact aQ hxh<|(JF.1 (LK.1 sa).2.1).1 y m
    .have hg:gd (decide<|(hv.length:Int)<(hv.length:Int)) true=false:=by rw[CP];rfl
     rw[Ep hg,Ep hg,Ep hg,Ep hg];rw[CP,QY,As];exact fin hv [] AX hQ2 AX
 .dsimp;rw[CP,As];obtain⟨t9,hv⟩:=s;dsimp only at hP⊢;have hvn:=fM hP.H9;have look:∀(j:Nat) (x:BZ),l[j]? =some x->∃t:Int,AB t9 (j:Int)=some t/\((¬3<=Gt (Z.map (·.1)) (rh x)/\t= -1)\/(3<=Gt (Z.map (·.1)) (rh x)/\∃m:Nat,t=(m:Int)/\hv[m]? =some x)):=λj x hj=>by obtain⟨t,t1,t2⟩:=hP.at_ j x hj;exact⟨t,by rw[JO];exact t1,t2⟩
  refine CB Z (λ(t:A3 (A3 Int)) i=>((hv,cs,t),i)) (λB t=>∃Z':ZL,Z'.map (·.1)=B.map (·.1)/\t=Z'.map (·.2)/\∀z∈Z',KV hv z.1 z.2) (λB z E t k81 hB hQ Fp=>?_) (λt k81 hQ=>?_) (s0:=[]) ⟨[],rfl,rfl,AX⟩ A4
  .dsimp;rw[zm,CE hB,BI];have bl:=Cz hB;have mz:=at_mem hB;have oz:=H6 z mz;have ix:AB (Z.map (·.2)) (B.length:Int)=some z.2:=by have:=Bn hB;rw[JO] at this⊢;rw[Gy,this];rfl
   obtain⟨Z',z1,z2,z3⟩:=hQ;have tl:t.length=B.length:=by rw[z2,Be,<-Be (f:=λz:Q3×A3 Int=>z.1),z1,Be]
   have zz:=zl z mz;refine CB z.2 (λ(u:A3 Int) i=>(u,i)) (λG u=>u.length<=G.length/\u.Nodup/\∀j':Int,j'∈u↔∃(j m:Nat) (x:BZ),(j:Int)∈G/\l[j]? =some x/\j'=(m:Int)/\hv[m]? =some x) (λG j E u k84 hG hU Nk=>?_) (λu k84 hU=>?_) (s0:=[]) ⟨AX,List.nodup_nil,AX⟩ A4
   .dsimp;refine A6 ix ?_;rw[CE hG,BI];have gl:=Cz hG;obtain⟨n,x,e,hx,tx⟩:=(oz.iff j).1<|at_mem hG
    subst e;obtain⟨tv,tv1,tv2⟩:=look n x hx;refine DI (λu':A3 Int=>u'.length<=(G++[(n:Int)]).length/\u'.Nodup/\∀j':Int,j'∈u'↔∃(j m:Nat) (x:BZ),(j:Int)∈G++[(n:Int)]/\l[j]? =some x/\j'=(m:Int)/\hv[m]? =some x) (λu' h'=>A6 (C7 hG A4)<|Nk u' h') λk89 h89=>?_
    refine A6 ix<|A6 (Bn hG)<|A6 tv1<|A6 tv1 ?_
    have split:∀j':Int,(∃(j m:Nat) (x:BZ),(j:Int)∈G++[(n:Int)]/\l[j]? =some x/\j'=(m:Int)/\hv[m]? =some x)↔j'∈u\/∃m:Nat,j'=(m:Int)/\hv[m]? =some x:=λj'=>by
     rw[hU.2.2];constructor
     .rintro⟨j,m,y,mj,hy,e,hm⟩;rcases C3.1 mj with mj|mj
      .exact .inl ⟨j,m,y,mj,hy,e,hm⟩
      .have:j=n:=by have:=Cn.1 mj;omega
       rw[this,hx] at hy;cases hy;exact .inr ⟨m,e,hm⟩
     .rintro(⟨j,m,y,mj,hy,e,hm⟩|⟨m,e,hm⟩)
      .exact⟨j,m,y,IB _ mj,hy,e,hm⟩
      .exact⟨n,m,x,AX,hx,e,hm⟩
    rcases tv2 with⟨hk,e⟩|⟨hk,m,e,hm⟩
    .rw[e,show decide ((0:Int)<= -1)=false from rfl,As];refine h89 _ ⟨DD,hU.2.1,λj'=>?_⟩;rw[split];refine⟨.inl,λh=>h.elim id λ⟨m,_,hm⟩=>?_⟩;exact absurd ((hP.mem x).1<|LM hm).2 hk
    .rw[e,decide_eq_true (show(0:Int)<=(m:Int) by omega),BI];rw[e] at tv1;refine A6 ix<|A6 (Bn hG)<|A6 tv1<|A6 tv1<|A6 (app_1 A4 A4)<|h89 _ ⟨DD,?_,λj'=>?_⟩
     .rw[U4];refine⟨hU.2.1,AX,λa ma b mb e2=>?_⟩;rw[Cn.1 mb] at e2;obtain⟨j,m',y,mj,hy,e3,KS⟩:=(hU.2.2 a).1 ma;have:m'=m:=A4;rw[this,hm] at KS;cases KS;have hjn:j=n:=nt IV hy hx;have hnG:(n:Int)∉G:=λc=>by have:=oz.nd;rw[hG,U4] at this;exact this.2.2 _ c _ Dc rfl
      rw[hjn] at mj;exact hnG mj
     .rw[C3,Cn,split];refine or_congr Iff.rfl ⟨λh=>⟨m,h,hm⟩,λ⟨m',h,KS⟩=>?_⟩;have:m'=m:=nt hvn KS hm;rw[h,this]
   .dsimp;refine A6 ix ?_;rw[CP,As];refine A6 (app_1 A4 A4) (A6 (C7 hB A4) (Fp _ ⟨Z'++[(z.1,u)],by simp[z1],by simp[z2],λy my=>?_⟩));rcases C3.1 my with m|m
    .exact z3 y m
    .rw[Cn.1 m];refine⟨hU.2.1,λj'=>?_⟩;rw[hU.2.2];constructor
     .rintro⟨j,m,x,mj,hx,e,hm⟩;exact⟨m,x,e,hm,(oz.at hx).1 mj⟩
     .rintro⟨m,x,e,hm,tx⟩;obtain⟨ml,_⟩:=(hP.mem x).1<|LM hm
      obtain⟨j,hj⟩:=Za.1 ml;exact⟨j,m,x,(oz.at hj).2 tx,hj,e,hm⟩
  .dsimp;rw[zm,CP,As];exact AU ⟨hP.H9,hP.mem,rfl,hQ⟩
abbrev HT:=A3 BZ×A3 T3×A3 (A3 Int)
structure RS(s:HT)(M:A3 H3)(Z:ZL):Prop where
 ok:∀h∈s.1,Bs h
 H9:s.1.Pairwise HF
 fac:∀k,k∈s.1.map rh↔k∈M/\3<=Gt (Z.map (·.1)) k
 cor:s.2.1=Z.map (λz=>Bx z.1)
 on:s.2.2=Z.map (·.2)
 nd:(Z.map (·.1)).Nodup
 mem:∀p,p∈Z.map (·.1)↔Br M p
 H6:∀z∈Z,KV s.1 z.1 z.2
def MX.refl(M:A3 H3):MX M M:=⟨λ_ h=>h,λh mh=>⟨h,mh,rfl,GR⟩⟩
def RS.O0{s:HT}{Z:ZL}(R:RS s M Z)(I:CH S M)(k:H3):k∈s.1.map rh↔k∈S.map (·.1):=by rw[R.fac,YK I (MX.refl M) R.mem R.nd];rfl
def RS.FM{s:HT}{Z:ZL}(R:RS s M Z){z:Q3×A3 Int}(mz:z∈Z):Br M z.1:=(R.mem z.1).1<|BU.2 ⟨z,mz,rfl⟩
def RS.len{s:HT}{Z:ZL}(R:RS s M Z):s.1.length<=M.length:=by
 have nb:(s.1.map rh).Nodup:=Nb.2 (UB (λ{x y} mx my h e=>by rw[Ph (R.ok x mx) (R.ok y my) e] at h;exact Zi _ h) R.H9)
 have:=Ml nb λx mx=>((R.fac x).1 mx).1
 rwa [Be] at this
def RS.arL{s:HT}{Z:ZL}(R:RS s M Z)(h:M.length<=31):Z.length<=29791:=by
 have:=p9 R.nd λp mp=>(R.mem p).1 mp
 rw[Be] at this;have:=HD h<|HD h h
 omega
theorem vT(o:∀h∈l,Bs h)(hl:l.length<=50):Yd (λr=>(r.2=13/\ ¬Ee (l.map rh))\/(r.2=12/\Ee (l.map rh)/\ ¬IH (l.map rh))\/(r.2=0/\Ee (l.map rh)/\IH (l.map rh)/\r.1.1.Pairwise HF/\(∀S,CH S (l.map rh)->∀h,h∈r.1.1↔h∈l/\rh h∈S.map (·.1))/\∃Z,RS r.1 (l.map rh) Z)) (VH l):=by
 unfold VH;refine Ap (afV o hl) λb hb=>Ac (λhc=>AU<| .inl ⟨rfl,λc=>?_⟩) λhc=>?_
 .grind
 have hB:Ee (l.map rh):=hb.1 (by simpa using hc);refine Ap (aiL o hl) λs ⟨S,sl⟩=>?_
 have os:∀h∈s,Bs h:=λh mh=>o h<|S.sub h mh
 have L:=S.least;refine Ap (afX os A4) λr hr=>?_
 let⟨C,c1,c2,c3,c4,c5⟩:=hr;have arz:s.length*(s.length*s.length)<=125000:=HD (show s.length<=50 by omega) (HD (show s.length<=50 by omega) (show s.length<=50 by omega));have cv:∀p,p∈C↔Br (s.map rh) p:=λp=>by rw[c5,alf]
 rw[c1];refine Ap (ajw c3 A4) λd hd=>?_
 rcases hd with⟨d3,m,m0,c,hm⟩|⟨rfl,a,ma,b,mb,c,mc,d,md,atq⟩
 .rw[B4 d3,BI];exact AU<| .inr<| .inl ⟨rfl,hB,agI hB m0 λp hp=>hm p<|(cv p).2<|(L.FM p).2 hp⟩
 .rw[show decide ((3:Int)<3)=false from rfl,As];have mem:∀{p},p∈C->Mem (l.map rh) p:=λmp=>((L.FM _).1<|(cv _).1 mp).1
  have hi:IH (l.map rh):=al1 (λk mk=>(Bs.Qr o k mk).nz) (mem ma) (mem mb) (mem mc) (mem md) atq;let⟨w,_,hw⟩:=zt o hl;have I:CH w.1 (l.map rh):=AL;refine Ap (ajL os A4 c3 A4) λD ⟨d1,d2,Z,z1,z2,z3⟩=>?_
  have R:RS D (l.map rh) Z:=by
   refine⟨λh mh=>?_,?_,λk=>?_,?_,z2,by rw[z1];exact c2,λp=>by rw[z1,cv,L.FM],z3⟩
   .grind
   .rw[d1];exact S.H9.filter _
   .rw[z1,d1,<-show _↔k∈l.map rh/\3<=Gt C k from YK I (MX.refl _) (λp=>by rw[cv,L.FM]) c2 k,YK I L cv c2];constructor
    .intro mk;let⟨x,mx,e⟩:=BU.1 mk;let⟨m1,m2⟩:=JE.1 mx;rw[<-e];exact⟨BU.2 ⟨x,m1,rfl⟩,Ar m2⟩
    .rintro⟨mk,h3⟩;let⟨x,mx,e⟩:=BU.1 mk;rw[<-e] at h3⊢;exact BU.2 ⟨x,JE.2 ⟨mx,B4 h3⟩,rfl⟩
   .rw[d2,<-z1,Tu];rfl
  refine AU<| .inr<| .inr ⟨rfl,hB,hi,R.H9,λF hF h=>⟨λmh=>?_,λ⟨mh,mf⟩=>?_⟩,Z,R⟩
  .have mr:rh h∈D.1.map rh:=BU.2 ⟨h,mh,rfl⟩;let⟨g,mg,e⟩:=BU.1 ((R.fac<|rh h).1 mr).1;rw[<-Ph (o g mg) (R.ok h mh) e];exact⟨mg,by rw[e];exact(R.O0 hF _).1 mr⟩
  .let⟨g,mg,e⟩:=BU.1 ((R.O0 hF _).2 mf);rw[<-Ph (R.ok g mg) (o h mh) e];exact mg
def anO{h:H3}(I:CH S M)(hM:JQ 14 (h::M))(hlen:M.length<=60)(hp:∀g∈h::M,IG g.1)(hi:IH (h::M)):∃S',CH S' (h::M):=by
 obtain⟨r,_,⟨_,hr⟩|⟨_,hr⟩⟩:=Yd.nB I hM A4 hlen (hp h Dc).nz λa ma b mb=>Vf (hp a ma)<|hp b mb
 .exact⟨_,hr⟩
 .exact absurd hi hr
def al7{S':A3 CQ}{h:H3}(I:CH S M)(I':CH S' (h::M)){f:CQ}(mf:f∈S')(hm:f.1∈M):f.1∈S.map (·.1):=by let⟨z,mz,tz,hc⟩:=abG I' mf;let⟨o,ho⟩:=I.int;let⟨g,mg,tg⟩:=I.cover z (λk mk=>mz k<|By _ mk) ⟨f.1,hm,tz⟩;have g1:=(I.Eg g mg).1;have:=qU ho I.nz I.norm hm g1 (hc g.1 (By _ g1) tg) tz tg;exact BU.2 ⟨g,mg,this.symm⟩
end
section
variable(n:Int)(k:H3)(Z:ZL)
def JV(a b:A3 Int):A3 Int:=a.filter λx=>decide<|x∈b
def KC(z w:Q3×A3 Int):ZL:=bif decide (val k z.1<0)&&decide (0<val k w.1)&&decide (2<=(JV z.2 w.2).length) then [(Fe k z.1 w.1,JV z.2 w.2++[n])] else []
def M1(z:Q3×A3 Int):ZL:=(bif decide (val k z.1<0) then [z] else [])++(bif decide (val k z.1=0) then [(z.1,z.2++[n])] else [])
def KB(z:Q3×A3 Int):ZL:=M1 n k z++Z.flatMap (KC n k z)
end
def UH{α β:Type}{f:α->A3 β}{w:Nat}:∀{l:A3 α},(∀x∈l,(f x).length<=w)->(l.flatMap f).length<=l.length*w
 |[],_=>by simp
 |x::l,h=>by
  have:=UH (l:=l) λy my=>h y<|By _ my
  have:=h x Dc;rw[Pc,E7,E6,S4];omega
def yT(n:Int)(k:H3)(z:Q3×A3 Int):(M1 n k z).length<=2:=by unfold M1;cases decide (val k z.1<0)<;>cases decide (val k z.1=0)<;>simp
def yU(n:Int)(k:H3)(z w:Q3×A3 Int):(KC n k z w).length<=1:=by unfold KC;cases decide (val k z.1<0)&&decide (0<val k w.1)&&decide (2<=(JV z.2 w.2).length)<;>simp
def yR(n:Int)(k:H3)(Z:ZL)(z:Q3×A3 Int):(KB n k Z z).length<=2+Z.length:=by
 unfold KB;rw[E7];have:=yT n k z;have:=UH (l:=Z) (f:=KC n k z) (w:=1) λw _=>yU n k z w
 omega
def Z0{a b:A3 Int}{x:Int}:x∈JV a b↔x∈a/\x∈b:=by unfold JV;simp
section
variable{s:HT}{M:List H3}{Z:ZL}{S:List CQ}{h:BZ}
variable{y:Q3×A3 Int}{n:Int}{z:Q3×A3 Int}
def abz(S:A3 CQ)(k:H3)(z w:Q3):Prop:=val k z<0/\0<val k w/\∃f∈S,∃g∈S,f.1≠g.1/\val f.1 z=0/\val f.1 w=0/\val g.1 z=0/\val g.1 w=0
theorem fh(R:RS s M Z)(I:CH S M){w:Q3×A3 Int}(mz:z∈Z)(mw:w∈Z)(my:y∈KC n (rh h) z w):y=(Fe (rh h) z.1 w.1,JV z.2 w.2++[n])/\abz S (rh h) z.1 w.1:=by
 unfold KC at my;cases hd:decide (val (rh h) z.1<0)&&decide (0<val (rh h) w.1)&&decide (2<=(JV z.2 w.2).length) with
 |false=>rw[hd] at my;cases my
 |true=>
  rw[hd] at my;rw[C4,C4,Hl,Hl,Hl] at hd;let⟨⟨h0,h1⟩,h2⟩:=hd;have nd:(JV z.2 w.2).Nodup:=(R.H6 z mz).nd.sublist List.filter_sublist;refine⟨Cn.1 my,h0,h1,?_⟩
  match e:JV z.2 w.2,h2,nd with
  |i::j::r,_,nd=>
   have mi:i∈JV z.2 w.2:=by rw[e];simp
   have mj:j∈JV z.2 w.2:=by rw[e];simp
   have KT:i≠j:=λc=>by rw[c] at nd;simp at nd
   let⟨i1,i2⟩:=Z0.1 mi;let⟨j1,j2⟩:=Z0.1 mj;obtain⟨a,x,rfl,hx,tx⟩:=((R.H6 z mz).iff i).1 i1;obtain⟨b,y',rfl,hy,ty⟩:=((R.H6 z mz).iff j).1 j1;have tx':=((R.H6 w mw).at hx).1 i2;have KH:=((R.H6 w mw).at hy).1 j2;let⟨f,mf,ef⟩:=BU.1<|(R.O0 I<|rh x).1<|BU.2 ⟨x,LM hx,rfl⟩
   let⟨g,mg,eg⟩:=BU.1<|(R.O0 I<|rh y').1<|BU.2 ⟨y',LM hy,rfl⟩
   refine⟨f,mf,g,mg,λc=>?_,by rw[ef];exact tx,by rw[ef];exact tx',by rw[eg];exact ty,by rw[eg];exact KH⟩;rw[ef,eg] at c;have:=Ph (R.ok x<|LM hx) (R.ok y'<|LM hy) c;rw[this] at hx;have:=nt (fM R.H9) hx hy;exact KT A4
theorem yS{k:H3}(my:y∈M1 n k z):(y=z/\val k z.1<0)\/(y=(z.1,z.2++[n])/\val k z.1=0):=by
 unfold M1 at my;rw[C3] at my;rcases my with my|my
 .grind
 .grind
theorem Yn(R:RS s M Z)(I:CH S M)(mz:z∈Z)(my:y∈KB n (rh h) Z z):(y=z/\val (rh h) z.1<0)\/(y=(z.1,z.2++[n])/\val (rh h) z.1=0)\/∃w∈Z,y=(Fe (rh h) z.1 w.1,JV z.2 w.2++[n])/\abz S (rh h) z.1 w.1:=by
 unfold KB at my;rw[C3] at my;rcases my with my|my
 .rcases yS my with c|c
  .exact .inl c
  .grind
 .let⟨w,mw,my⟩:=MQ.1 my;exact .inr<| .inr ⟨w,mw,fh R I mz mw my⟩
theorem ahM(R:RS s M Z)(I:CH S M)(n:Int):((Z.flatMap<|KB n (rh h) Z).map (·.1)).Nodup:=by
 have zp:Z.Pairwise λa b=>a.1≠b.1:=Nb.1 R.nd
 refine Nb.2<|List.pairwise_flatMap.2 ⟨λz mz=>?_,?_⟩
 .unfold KB;rw[LK];refine⟨?_,List.pairwise_flatMap.2 ⟨λw mw=>?_,?_⟩,λx mx y my=>?_⟩
  .unfold M1;by_cases c:val (rh h) z.1=0
   .grind
   .rw[Bo c];cases decide (val (rh h) z.1<0)<;>simp
  .unfold KC;cases decide (val (rh h) z.1<0)&&decide (0<val (rh h) w.1)&&decide (2<=(JV z.2 w.2).length)<;>simp
  .refine UB (λ{a b} ma mb ne x mx y my e=>?_) zp;let⟨ex,x0,x1,f,mf,g,mg,hne,a1,a2,a3,a4⟩:=fh R I mz ma mx;let⟨ey,y0,y1,_⟩:=fh R I mz mb my;rw[ex,ey] at e;exact ne (yr I (R.FM mz) (R.FM ma) (R.FM mz) (R.FM mb) x0 x1 y0 y1 mf mg hne a1 a2 a3 a4 e).2
  .let⟨w,mw,my⟩:=MQ.1 my;let⟨ey,y0,y1,_⟩:=fh R I mz mw my;have ex:x.1=z.1:=by rcases yS mx with⟨e,_⟩|⟨e,_⟩<;>rw[e]
   rw[ex,ey];exact λe=>qL (R.FM mz) (R.FM mw) (R.FM mz) y0 y1 e.symm
 .refine UB (λ{a b} ma mb ne x mx y my e=>?_) zp;have FW:∀{z y:Q3×A3 Int},(y=z/\val (rh h) z.1<0)\/(y=(z.1,z.2++[n])/\val (rh h) z.1=0)->y.1=z.1:=λ{z y} c=>by rcases c with⟨e,_⟩|⟨e,_⟩<;>rw[e]
  rcases or_assoc.2 (Yn R I ma mx) with cx|⟨w,mw,ex,x0,x1,f,mf,g,mg,hne,a1,a2,a3,a4⟩
  .rcases or_assoc.2 (Yn R I mb my) with cy|⟨v,mv,ey,y0,y1,_⟩
   .grind
   .rw[FW cx,ey] at e;exact qL (R.FM mb) (R.FM mv) (R.FM ma) y0 y1 e.symm
  .rcases or_assoc.2 (Yn R I mb my) with cy|⟨v,mv,ey,y0,y1,_⟩
   .rw[FW cy,ex] at e;exact qL (R.FM ma) (R.FM mw) (R.FM mb) x0 x1 e
   .rw[ex,ey] at e;exact ne (yr I (R.FM ma) (R.FM mw) (R.FM mb) (R.FM mv) x0 x1 y0 y1 mf mg hne a1 a2 a3 a4 e).1
theorem akf(R:RS s M Z)(I:CH S M)(hz:(rh h).1≠o3)(p:Q3):p∈(Z.flatMap<|KB (s.1.length:Int) (rh h) Z).map (·.1)↔Br (rh h::M) p:=by
 constructor
 .intro mp;obtain⟨y,my,rfl⟩:=BU.1 mp;let⟨z,mz,my⟩:=MQ.1 my;rcases Yn R I mz my with⟨e,hv⟩|⟨e,hv⟩|⟨w,mw,e,h0,h1,f,mf,g,mg,hne,a1,a2,a3,a4⟩
  .rw[e];exact fN (R.FM (z:=z) mz)<|GS hv
  .rw[e];show Br _ z.1;exact fN (R.FM (z:=z) mz) (by rw[hv];exact GR)
  .rw[e];show Br _ (Fe (rh h) z.1 w.1);exact(alC I (R.FM mz) (R.FM mw) h0 h1 mf mg hne a1 a2 a3 a4).1
 .intro hp;have FW:∀z∈Z,val (rh h) z.1<=0->z.1∈(Z.flatMap<|KB (s.1.length:Int) (rh h) Z).map (·.1):=λz mz hv=>by
   by_cases h0:val (rh h) z.1=0
   .refine BU.2 ⟨(z.1,z.2++[(s.1.length:Int)]),MQ.2 ⟨z,mz,?_⟩,rfl⟩;unfold KB M1;rw[B4 h0];simp
   .refine BU.2 ⟨z,MQ.2 ⟨z,mz,?_⟩,rfl⟩;unfold KB M1;rw[B4 (show val (rh h) z.1<0 by grind)];simp
  rcases ahZ I hp with hv|⟨u,v,hu,hv,h0,h1,e,f,mf,g,mg,hne,a1,a2,a3,a4⟩
  .obtain⟨z,mz,rfl⟩:=BU.1 ((R.mem p).2 hv);exact FW z mz<|hp.1 _ Dc
  .obtain⟨z,mz,rfl⟩:=BU.1 ((R.mem u).2 hu);obtain⟨w,mw,rfl⟩:=BU.1<|(R.mem v).2 hv
   refine BU.2 ⟨(Fe (rh h) z.1 w.1,JV z.2 w.2++[(s.1.length:Int)]),MQ.2 ⟨z,mz,?_⟩,e.symm⟩;have two:2<=(JV z.2 w.2).length:=by
    let⟨x,mx,ex⟩:=BU.1<|(R.O0 I f.1).2<|BU.2 ⟨f,mf,rfl⟩
    let⟨y,my,ey⟩:=BU.1<|(R.O0 I g.1).2<|BU.2 ⟨g,mg,rfl⟩
    let⟨a,ha⟩:=Za.1 mx;let⟨b,hb⟩:=Za.1 my;rw[<-ex] at a1 a2;rw[<-ey] at a3 a4;have m1:(a:Int)∈JV z.2 w.2:=Z0.2 ⟨((R.H6 z mz).at ha).2 a1,((R.H6 w mw).at ha).2 a2⟩;have m2:(b:Int)∈JV z.2 w.2:=Z0.2 ⟨((R.H6 z mz).at hb).2 a3,((R.H6 w mw).at hb).2 a4⟩;have J4:a≠b:=λc=>hne (by rw[<-ex,<-ey];rw[c,hb] at ha;cases ha;rfl)
    have:=Ml (l:=[(a:Int),(b:Int)]) (T:=JV z.2 w.2) DD (by
     intro x mx;rcases Aq.1 mx with e|mx
     .rw[e];exact m1
     .rw[Cn.1 mx];exact m2)
    exact this
   unfold KB;refine SB _<|MQ.2 ⟨w,mw,?_⟩
   unfold KC;rw[B4 h0,B4 h1,B4 two];simp
theorem ake(R:RS s M Z)(I:CH S M)(hm:∀x∈s.1,rh x∈M)(my:y∈Z.flatMap (KB (s.1.length:Int) (rh h) Z)):KV (s.1++[h]) y.1 y.2:=by
 have up:∀{p:Q3} {o:A3 Int},KV s.1 p o->∀j:Int,(∃(m:Nat) (x:BZ),j=(m:Int)/\(s.1++[h])[m]? =some x/\val (rh x) p=0)↔j∈o\/(j=(s.1.length:Int)/\val (rh h) p=0):=λ{p o} ho j=>by
  rw[ho.iff];constructor
  .grind
  .rintro(⟨m,x,e,hx,t⟩|⟨e,t⟩)
   .grind
   .exact⟨s.1.length,h,e,AX,t⟩
 have fresh:∀{p:Q3} {o:A3 Int},KV s.1 p o->(s.1.length:Int)∉o:=λ{p o} ho c=>by let⟨m,x,e,hx,_⟩:=(ho.iff _).1 c;have:=(FH.1 hx).1;omega
 have put:∀{p:Q3} {o:A3 Int},KV s.1 p o->val (rh h) p=0->KV (s.1++[h]) p (o++[(s.1.length:Int)]):=λ{p o} ho t=>by
  refine⟨?_,λj=>?_⟩
  .rw[U4];refine⟨ho.nd,AX,λa ma b mb e=>fresh ho ?_⟩;rw[Cn.1 mb] at e;rw[<-e];exact ma
  .grind
 let⟨z,mz,my⟩:=MQ.1 my;rcases Yn R I mz my with⟨e,hv⟩|⟨e,hv⟩|⟨w,mw,e,h0,h1,f,mf,g,mg,hne,a1,a2,a3,a4⟩
 .rw[e];refine⟨(R.H6 z mz).nd,λj=>?_⟩;rw[up<|R.H6 z mz];refine⟨.inl,λc=>c.elim id λ⟨_,t⟩=>?_⟩;rw[t] at hv;exact absurd hv AL
 .rw[e];exact put (R.H6 z mz) hv
 .rw[e];have ho:GF (val (rh h) z.1) (val (rh h) w.1)=true:=KX.2<| .inl ⟨h0,h1⟩
  refine put ⟨(R.H6 z mz).nd.sublist List.filter_sublist,λj=>?_⟩<|Yx ho
  rw[Z0];constructor
  .rintro⟨j1,j2⟩;let⟨m,x,e,hx,t⟩:=((R.H6 z mz).iff j).1 j1;rw[e] at j2;exact⟨m,x,e,hx,(Ri (R.FM mz).1 (R.FM mw).1 ho<|hm x<|LM hx).2 ⟨t,((R.H6 w mw).at hx).1 j2⟩⟩
  .rintro⟨m,x,e,hx,t⟩;let⟨t1,t2⟩:=(Ri (R.FM mz).1 (R.FM mw).1 ho<|hm x<|LM hx).1 t;rw[e];exact⟨((R.H6 z mz).at hx).2 t1,((R.H6 w mw).at hx).2 t2⟩
end
section
variable{S:A3 CQ}{l:A3 BZ}{α:Type}{M:A3 H3}{s:HT}{Z:ZL}{b:A3 BZ}
def Kd{β:Type}{l A C:A3 α}{x:α}(f:α->β)(h:l=A++x::C):AB (l.map f) (A.length:Int)=some (f x):=by have:=Bn h;rw[JO] at this⊢;rw[Gy,this];rfl
def ve(I:CH S M){f:CQ}(mf:f∈S){p:Q3}(mp:p∈f.2):Br M p:=(((I.Eg f mf).2.2.2 p).1 mp).1
def aaa(M:A3 H3)(h:BZ)(r:HT×Bool):Prop:=(r.2=true/\(∃Z',RS r.1 (rh h::M) Z')/\∃S',CH S' (rh h::M))\/(r.2=false/\ ¬IH (rh h::M))
def ao4{k:H3}(R:RS s M Z)(I:CH S M)(hz:k.1≠o3)(hn:∀a∈k::M,∀b∈k::M,Qw a b->a=b)(ho:∀z∈Z,val k z.1<=0):RS s (k::M) Z/\CH S (k::M):=by
 have hf:∀f∈S,∀p∈f.2,val k p<=0:=λf mf p mp=>by
  let⟨z,mz,e⟩:=BU.1<|(R.mem p).2<|ve I mf mp
  rw[<-e];exact ho z mz
 have I':=I.out hz hn hf;have hv:=λp=>(R.mem p).trans (zG I.bdd (λq=>yQ I hf) p).symm
 exact⟨⟨R.ok,R.H9,λg=>(R.O0 I g).trans<|YK I' (MX.refl _) hv R.nd g,R.cor,R.on,R.nd,hv,R.H6⟩,I'⟩
def LU(W:ZL):A3 T3×A3 (A3 Int):=(W.map<|λz=>Bx z.1,W.map (·.2))
def qH(W:ZL)(z:Q3×A3 Int):LU (W++[z])=((LU W).1++[Bx z.1],(LU W).2++[z.2]):=by unfold LU;simp
def aaH(W:ZL):(LU W).1.length=W.length/\(LU W).2.length=W.length:=by unfold LU;simp
def aaV{b:Nat}{s:A3 α}(hb:b<=1000)(hs:s.length<=1000000000):BG b [] s=some s:=by unfold BG;have h1:(([]:A3 α).length+s.length)*b<=140737488355328:=Ct (HD (show([]:A3 α).length+s.length<=1000000000 by simp;omega) hb) A4;rw[B4 h1,B4 (show([]:A3 α).length+s.length<=9223372036854775807 by simp;omega)];rfl
theorem wA{h:BZ}(R:RS s M Z)(I:CH S M)(oh:Bs h)(hM:JQ 14 M)(hp:∀g∈M,IG g.1)(hlen:M.length<=31):Yd (aaa M h) (NL s h):=by
 have hM':JQ 14 (rh h::M):=λg mg=>(Aq.1 mg).elim (λe=>by rw[e];exact⟨oh.lvn A4,oh.JW⟩)<|hM g
 have hp':∀g∈rh h::M,IG g.1:=λg mg=>(Aq.1 mg).elim (λe=>by rw[e];exact oh.jy)<|hp g
 have hnm:∀a∈rh h::M,∀b∈rh h::M,Qw a b->a=b:=λa ma b mb=>Vf (hp' a ma)<|hp' b mb
 have hz:(rh h).1≠o3:=oh.jy.nz;have zl:=R.arL hlen;have zv:∀z∈Z,D6 500 z.1:=λz mz=>QN (ij hM<|R.FM mz) A4
 have sl:=R.len;let⟨hs,cs,os⟩:=s;have ecs:cs=Z.map (λz=>Bx z.1):=R.cor;have eos:os=Z.map (·.2):=R.on;subst ecs eos;have cl:(Z.map λz=>Bx z.1).length=Z.length:=Be _;unfold NL;dsimp only at sl⊢;refine CB Z (λ(t:A3 AD×Bool×Bool) i=>(t.1,t.2.1,t.2.2,i)) (λA t=>t=(A.map<|λz=>BV<|val (rh h) z.1,A.any<|λz=>decide<|val (rh h) z.1<0,A.any<|λz=>decide<|0<val (rh h) z.1)) (λA z C t k hA hP next=>?_) (λt k hP=>?_) (s0:=([],false,false)) rfl A4
 .dsimp;rw[cl,CE hA,BI];have mz:=at_mem hA;have al:=Cz hA;let⟨vv,vl⟩:=ik oh (zv z mz) A4;have sg:=WX vl A4;rw[hP];refine A6 (Kd _ hA) (A6 vv (A6 (app_1 A4 (by rw[Be];omega)) ?_));have fin:∀BA BN:Int,(A.any (λz=>decide<|val (rh h) z.1<0)=false->BA=(val (rh h) z.1).num.sign)->(A.any (λz=>decide<|0<val (rh h) z.1)=false->BN=(val (rh h) z.1).num.sign)->Yd (aaa M h) (bd (AH<|(A.length:Int)+1) λBi=>k (A.map (λz=>BV<|val (rh h) z.1)++[BV<|val (rh h) z.1],(A.any (λz=>decide<|val (rh h) z.1<0)||decide (BA<0)),(A.any (λz=>decide<|0<val (rh h) z.1)||decide (0<BN)),Bi)):=λBA BN e1 e2=>by
   refine A6 (C7 hA A4)<|next (_,_,_) ?_
   refine Prod.ext AX<|Prod.ext ?_ ?_
   .dsimp;rw[ZK];cases c:A.any (λz=>decide<|val (rh h) z.1<0) with|true=>rfl|false=>rw[e1 c,sign_neg];simp
   .dsimp;rw[ZK];cases c:A.any (λz=>decide<|0<val (rh h) z.1) with|true=>rfl|false=>rw[e2 c,Yi];simp
  refine GJ (λg1=>⟨_,sg,GJ (λg2=>⟨_,sg,fin _ _ (λ_=>rfl) λ_=>rfl⟩) λg2=>fin _ _ (λ_=>rfl) λc=>?_⟩) λg1=>GJ (λg2=>⟨_,sg,fin _ _ (λc=>?_) λ_=>rfl⟩) λg2=>fin _ _ (λc=>?_) λc=>?_
  .rw[c] at g2;cases g2
  .rw[c] at g1;cases g1
  .rw[c] at g1;cases g1
  .rw[c] at g2;cases g2
 .dsimp;rw[cl,CP,As,hP];refine Ac (λhin=>AU<| .inr ⟨rfl,?_⟩) λhin=>Ac (λbC=>AU<| .inl ⟨rfl,?_⟩) λbC=>?_
  .refine I.empty λf mf p mp=>?_
   let⟨z,mz,e⟩:=BU.1<|(R.mem p).2<|ve I mf mp
   rw[<-e,<-Rat.not_lt];intro c;rw[G5,ZV] at hin;exact hin z mz<|B4 c
  .rw[G5,ZV] at bC;have:=ao4 R I hz hnm λz mz=>Rat.not_lt.1 λc=>bC z mz<|B4 c
   exact⟨⟨_,this.1⟩,_,this.2⟩
  .rw[WE,iF] at hin bC;let⟨zi,mzi,hzi⟩:=hin;let⟨zo,mzo,hzo⟩:=bC;have hzi:=Ar hzi;have hzo:=Ar hzo;have hin:IH (rh h::M):=by let⟨o,ho⟩:=I.int;let⟨q,q1,q2⟩:=rY ho (R.FM mzi).1 hzi;exact⟨q,λg mg=>(Aq.1 mg).elim (λe=>by rw[e];exact q2)<|q1 g⟩
   let⟨S',I'⟩:=anO I hM' A4 hp' hin;have nw:∀W:ZL,W.length<=1000000000->(LU W).1.length<=1000000000/\(LU W).2.length<=1000000000:=λW hW=>by rw[(aaH W).1,(aaH W).2];exact⟨hW,hW⟩
   refine CB Z (λ(t:A3 T3×A3 (A3 Int)) i=>(t.1,t.2,i)) (λA t=>t=LU (A.flatMap<|KB (hs.length:Int) (rh h) Z)) (λA z C t Md hA hQ next=>?_) (λt Md hQ=>?_) (s0:=([],[])) rfl A4
   .dsimp;rw[CE hA,BI];have mz:=at_mem hA;have al:=Cz hA;have wl:(A.flatMap<|KB (hs.length:Int) (rh h) Z).length<=29791*29793:=by
     have:=UH (l:=A) (f:=KB (hs.length:Int) (rh h) Z) (w:=29793) λz _=>by have:=yR (hs.length:Int) (rh h) Z z;omega
     exact Ct this<|HD A4<|BK _
    generalize hW:A.flatMap (KB (hs.length:Int) (rh h) Z)=W at wl hQ
    let⟨vv,vl⟩:=ik oh (zv z mz) A4;have sg:=WX vl A4;have iv:=Kd (λz:Q3×A3 Int=>BV<|val (rh h) z.1) hA;have ic:=Kd (λz:Q3×A3 Int=>Bx z.1) hA;have io:=Kd (λz:Q3×A3 Int=>z.2) hA;have zo:=(R.H6 z mz).len;have zn:z.2.length<=100:=by dsimp only at zo;omega
    refine A6 iv<|A6 iv<|A6 sg ?_
    refine DI (λt':A3 T3×A3 (A3 Int)=>t'=LU (W++bif decide (val (rh h) z.1<0) then [z] else [])) (λt' h'=>?_) λKo F7=>?_
    .refine A6 iv (A6 iv<|A6 sg ?_);refine DI (λt':A3 T3×A3 (A3 Int)=>t'=LU (W++M1 (hs.length:Int) (rh h) z)) (λt2 h2=>?_) λk47 J5=>?_
     .refine CB Z (λ(t:A3 T3×A3 (A3 Int)) i=>(t.1,t.2,i)) (λB t=>t=LU (W++(M1 (hs.length:Int) (rh h) z++B.flatMap (KC (hs.length:Int) (rh h) z)))) (λB w D u k62 hB hU Fp=>?_) (λu k62 hU=>?_) (s0:=t2) (by rw[h2];simp) A4
      .dsimp;rw[CE hB,BI];have mw:=at_mem hB;have bl:=Cz hB;have el:(M1 (hs.length:Int) (rh h) z++B.flatMap (KC (hs.length:Int) (rh h) z)).length<=29793:=by
        rw[E7];have:=yT (hs.length:Int) (rh h) z;have:=UH (l:=B) (f:=KC (hs.length:Int) (rh h) z) (w:=1) λw _=>yU _ _ _ _
        omega
       generalize hV:M1 (hs.length:Int) (rh h) z++B.flatMap (KC (hs.length:Int) (rh h) z)=V at el hU
       let⟨ww,wl2⟩:=ik oh (zv w mw) A4;have sgw:=WX wl2 A4;have jv:=Kd (λz:Q3×A3 Int=>BV<|val (rh h) z.1) hB;have jc:=Kd (λz:Q3×A3 Int=>Bx z.1) hB;have jo:=Kd (λz:Q3×A3 Int=>z.2) hB;have wo:=(R.H6 w mw).len;have wn:w.2.length<=100:=by dsimp only at wo;omega
       have fl:M1 (hs.length:Int) (rh h) z++(B++[w]).flatMap (KC (hs.length:Int) (rh h) z)=V++KC (hs.length:Int) (rh h) z w:=by rw[<-hV];simp
       refine DI (λt':A3 T3×A3 (A3 Int)=>t'=LU (W++(V++KC (hs.length:Int) (rh h) z w))) (λt' h'=>A6 (C7 hB A4) (Fp (_,_) (by rw[fl,<-h']))) λk65 h65=>?_
       refine A6 io<|A6 jo<|A6 (xB (R.H6 w mw).nd zn wn)<|A6 iv<|A6 iv<|A6 sg ?_
       have two:decide ((2:Int)<=((List.filter (λx=>decide<|x∈w.2) z.2).length:Int))=decide (2<=(JV z.2 w.2).length):=HX.2 (by unfold JV;omega);rw[sign_neg,two];by_cases h0:val (rh h) z.1<0
       .have g1:gd (decide<|val (rh h) z.1<0) true=true:=by rw[B4 h0];rfl
        rw[Cs g1];refine A6 jv ?_;rw[Cs g1];refine A6 jv ?_;rw[Cs g1];refine A6 sgw ?_;rw[Yi];refine Ac (λhc=>?_) λhc=>h65 _ (by rw[hU];unfold KC;rw[hc];simp)
        have h1:0<val (rh h) w.1:=by rw[C4,C4] at hc;exact Ar hc.1.2
        have BC:=lvs vl wl2;have hne:val (rh h) z.1-val (rh h) w.1≠0:=AL;have hdv:=LZ vl<|lvi BC hne
        rw[<-PV] at hdv;have hwz:=zw (zv w mw)<|zv z mz
        have hsc:=SJ hwz hdv;refine A6 iv<|A6 iv<|A6 iv<|A6 iv<|A6 jv<|A6 jv<|A6 (UY vl wl2 A4 A4)<|A6 (arA vl BC A4 A4 hne)<|A6 ic<|A6 jc<|A6 ic<|A6 (abD (zv w mw) (zv z mz) A4)<|A6 (WN hwz hdv A4)<|A6 (qh (zv z mz) hsc A4) ?_
        have wv:(W++V).length<=1000000000:=by rw[E7];omega
        rw[hU];refine A6 (app_1 A4 (nw _ wv).1)<|A6 (app_1 A4 ?_)<|A6 (app_1 A4 (nw _ wv).2)<|h65 _ ?_
        .have:=List.length_filter_le (λx=>decide<|x∈w.2) z.2;omega
        .unfold KC;rw[hc,BI,<-HY,qH];rfl
       .have g1:gd (decide<|val (rh h) z.1<0) true=false:=by rw[Bo h0];rfl
        rw[Ep g1,Ep g1,Ep g1];rw[Bo h0,QY,QY,As];refine h65 _ (by rw[hU];unfold KC;rw[Bo h0];simp)
      .dsimp;rw[CP,As];refine A6 (C7 hA A4)<|next (_,_) ?_
       rw[ZW,hW];simp[Pc,List.flatMap_nil,Ig];exact hU
     .have eq0:decide ((val (rh h) z.1).num.sign=0)=decide (val (rh h) z.1=0):=sign_zero _;rw[eq0,h'];have wv:(W++bif decide (val (rh h) z.1<0) then [z] else []).length<=1000000000:=by rw[E7];cases decide (val (rh h) z.1<0)<;>simp<;>omega
      refine Ac (λhc=>A6 ic<|A6 (app_1 A4 (nw _ wv).1)<|A6 io<|A6 (aaV A4 A4)<|A6 (app_1 A4 A4)<|A6 (app_1 A4 (nw _ wv).2)<|J5 _ ?_) λhc=>J5 _ ?_
      .unfold M1;rw[hc,BI,<-HY,qH]
      .unfold M1;rw[hc,As,Ig]
    .rw[sign_neg,hQ];refine Ac (λhc=>A6 ic<|A6 (app_1 A4 (nw W A4).1)<|A6 io<|A6 (aaV A4 A4)<|A6 (app_1 A4 (nw W A4).2)<|F7 _ ?_) λhc=>F7 _ ?_
     .rw[hc,BI,qH]
     .rw[hc,As,Ig]
   .dsimp;rw[CP,As,hQ];have hvn:=fM R.H9;have hsl:hs.length<=31:=A4;have sM:∀x∈hs,rh x∈M:=λx mx=>((R.fac<|rh x).1<|BU.2 ⟨x,mx,rfl⟩).1
    have Nz:h∉hs:=λc=>by
     have:=(R.FM mzo).1 _<|sM h c
     grind
    have Zm:=λp=>akf (s:=(hs,_,_)) R I hz p
    have Zn:=ahM (s:=(hs,_,_)) (h:=h) R I (hs.length:Int);have Zo:=λy=>ake (s:=(hs,_,_)) (h:=h) R I sM (y:=y)
    dsimp only at Zm Zo
    generalize hW:Z.flatMap (KB (hs.length:Int) (rh h) Z)=W at Zm Zn Zo
    have Wl:W.length<=1000000000:=by
     have:=UH (l:=Z) (f:=KB (hs.length:Int) (rh h) Z) (w:=29793) λz _=>by have:=yR (hs.length:Int) (rh h) Z z;omega
     rw[hW] at this;exact Ct this<|Ct (HD zl<|BK _) A4
    have F:=YK I' (MX.refl _) Zm Zn;have lM:∀x∈hs++[h],rh x∈rh h::M:=λx mx=>(C3.1 mx).elim (λm=>By _<|sM x m) λm=>by rw[Cn.1 m];exact Dc
    have lo:∀x∈hs++[h],Bs x:=λx mx=>(C3.1 mx).elim (R.ok x) λm=>by rw[Cn.1 m];exact oh
    refine A6 (Yv [] hs DD)<|A6 (Yv _ _ DD) ?_
    rw[K7];refine Ap (an0 (l:=hs++[h]) DD ?_ Wl Zo (cs:=(LU W).1) λx mx y my cx cy e=>?_) λr hr=>AU<| .inl ⟨rfl,?_,S',I'⟩
    .rw[U4];exact⟨hvn,AX,λa ma b mb e=>Nz (by rw[<-Cn.1 mb,<-e];exact ma)⟩
    .let⟨f,mf,ef⟩:=BU.1 ((F<|rh x).2 ⟨lM x mx,cx⟩);let⟨g,mg,eg⟩:=BU.1<|(F<|rh y).2 ⟨lM y my,cy⟩
     have:=xe I' mf mg (by rw[ef,eg];show rn x.1=rn y.1;rw[e]);rw[ef,eg] at this;exact Ph (lo x mx) (lo y my) this
    .let⟨r1,r2,r3,Z',e1,e2,e3⟩:=hr;refine⟨Z',λx mx=>lo x ((r2 x).1 mx).1,r1,λk=>?_,?_,e2,by rw[e1];exact Zn,λp=>by rw[e1];exact Zm p,e3⟩
     .rw[e1];constructor
      .intro mk;let⟨x,mx,e⟩:=BU.1 mk;rw[<-e];exact⟨lM x ((r2 x).1 mx).1,((r2 x).1 mx).2⟩
      .rintro⟨mk,ck⟩;rcases Aq.1 mk with e|mk'
       .rw[e] at ck⊢;exact BU.2 ⟨h,(r2 h).2 ⟨AX,ck⟩,rfl⟩
       .let⟨f,mf,ef⟩:=BU.1 ((F k).2 ⟨mk,ck⟩);have:=al7 I I' mf (by rw[ef];exact mk');rw[ef] at this;let⟨x,mx,e⟩:=BU.1<|(R.O0 I k).2 this
        rw[<-e] at ck⊢;exact BU.2 ⟨x,(r2 x).2 ⟨IB _ mx,ck⟩,rfl⟩
     .rw[r3];unfold LU;have:W.map (λz=>Bx z.1)=(W.map (·.1)).map Bx:=by rw[Tu];rfl
      rw[this,<-e1,Tu];rfl
def v7{F:A3 CQ}(o:∀h∈l,Bs h)(hl:l.length<=50)(I:CH F (l.map rh)):Yd (λr=>∃Z,RS r (l.map rh) Z) (V7 l):=by
 unfold V7;refine Ap (vT o hl) λx hx=>AU ?_
 rcases hx with⟨_,h⟩|⟨_,_,h⟩|⟨_,_,_,_,_,h⟩
 .exact absurd I.bdd h
 .exact absurd I.int h
 .exact h
def uf(R:RS s (l.map rh) Z)(I:CH S (l.map rh))(ol:∀h∈l,Bs h)(ob:∀h∈b,Bs h)(hlen:l.length+b.length<=32):Yd (λt=>(t.2=true/\∃N S Z,(∀k,k∈N↔k∈b.map rh\/k∈l.map rh)/\RS t.1 N Z/\CH S N)\/(t.2=false/\ ¬IH (b.map rh++l.map rh))) (Uy s b):=by
 unfold Uy;refine CB b (λ(t:HT×Bool) i=>(t.1,t.2,i)) (λA t=>(t.2=true/\∃N S Z,(∀k,k∈N↔k∈A.map rh\/k∈l.map rh)/\N.length=A.length+l.length/\RS t.1 N Z/\CH S N)\/(t.2=false/\ ¬IH (b.map rh++l.map rh))) (λA h C t k hA hP next=>?_) (λt k hP=>?_) (s0:=(s,true)) (.inl ⟨rfl,l.map rh,S,Z,AX,AX,R,I⟩) A4
 .dsimp only;rw[CE hA,Lq];have al:=Cz hA;rcases hP with⟨e,N,T,Y,n1,n2,R1,I1⟩|⟨e,hn⟩
  .rw[e,BI];have oh:=ob h<|at_mem hA
   have sub:∀g∈rh h::N,g∈b.map rh++l.map rh:=λg mg=>by
    rcases Aq.1 mg with e|mg
    .rw[e];exact IB _<|BU.2 ⟨h,at_mem hA,rfl⟩
    .rcases(n1 g).1 mg with m|m
     .let⟨x,mx,e⟩:=BU.1 m;exact IB _ (BU.2 ⟨x,by rw[hA];exact IB _ mx,e⟩)
     .exact SB _ m
   have Gb:JQ 14 N:=λg mg=>by
    rcases C3.1 (sub g<|By _ mg) with m|m
    .exact Bs.Gb ob g m
    .exact Bs.Gb ol g m
   have pr:∀g∈N,IG g.1:=λg mg=>by
    rcases C3.1 (sub g<|By _ mg) with m|m
    .exact Bs.Qr ob g m
    .exact Bs.Qr ol g m
   refine A6 (Bn hA)<|Ap (wA R1 I1 oh Gb pr A4) λr hr=>A6 (C7 hA A4)<|next r ?_
   rcases hr with⟨e1,⟨Z',R'⟩,S',I'⟩|⟨e1,hn⟩
   .refine .inl ⟨e1,_,S',Z',λk=>?_,DD,R',I'⟩;rw[Aq,n1,Ge,C3];simp only[MK,ZH,Cn];constructor
    .rintro(a|a|a)
     .exact .inl<| .inr a
     .exact .inl<| .inl a
     .exact .inr a
    .rintro((a|a)|a)
     .exact .inr<| .inl a
     .exact .inl a
     .exact .inr<| .inr a
   .exact .inr ⟨e1,λ⟨q,hq⟩=>hn ⟨q,λg mg=>hq g<|sub g mg⟩⟩
  .rw[e,As];exact AU<| .inr ⟨rfl,hn⟩
 .dsimp only;rw[CP,QY,As];rcases hP with⟨e,N,T,Y,n1,n2,R1,I1⟩|⟨e,hn⟩
  .exact AU<| .inl ⟨e,N,T,Y,n1,R1,I1⟩
  .exact AU<| .inr ⟨e,hn⟩
def agH(I:CH S (l.map rh))(ol:∀h∈l,Bs h)(ob:∀h∈b,Bs h)(hlen:l.length+b.length<=32):Yd (λr=>r=true↔IH (b.map rh++l.map rh)) (da l b):=by
 unfold da;refine Ap (v7 ol A4 I) λs ⟨Z,R⟩=>Ap (uf R I ol ob hlen) λr hr=>AU ?_
 rcases hr with⟨e,N,T,Y,n1,R1,I1⟩|⟨e,hn⟩
 .refine⟨λ_=>?_,λ_=>e⟩;let⟨q,hq⟩:=I1.int;exact⟨q,λg mg=>hq g<|(n1 g).2<|C3.1 mg⟩
 .exact⟨λc=>(by rw[e] at c;cases c),λc=>absurd c hn⟩
def acg(l:A3 BZ)(r:Int):Prop:=(r=11/\ ¬Asc l)\/(Asc l/\((r=13/\ ¬Ee (l.map rh))\/(r=12/\Ee (l.map rh)/\ ¬IH (l.map rh))\/(Ee (l.map rh)/\IH (l.map rh)/\∃b:A3 BZ,b.Pairwise HF/\(∀S,CH S (l.map rh)->∀h,h∈b↔h∈l/\rh h∈S.map (·.1))/\r=bif decide (b.length<l.length) then 1 else 0)))
def aev(o:∀h∈l,Bs h)(hc:bX l=some 0)(hl:l.length<=32):Yd (acg l) (Jc l):=by
 unfold Jc;rw[Bo (show¬32<(l.length:Int) by omega),As,hc];refine A6 rfl ?_;show Yd _ (lp _ _ 1);have fin:Asc l->∀k:Int->AA Int,Yd (acg l)
   (bd (VH l) λBq=>cond ((decide<|Bq.2=0)&&(decide<|(Bq.1.1.length:Int)<(l.length:Int))) (some 1)<|some Bq.2):=λhP _=>by
  refine Ap (vT o A4) λr hr=>?_
  rcases hr with⟨e,h⟩|⟨e,h1,h2⟩|⟨e,h1,h2,h3,h4,_⟩
  .rw[e];exact AU<| .inr ⟨hP,.inl ⟨rfl,h⟩⟩
  .rw[e];exact AU<| .inr ⟨hP,.inr<| .inl ⟨rfl,h1,h2⟩⟩
  .rw[e];have hd:decide ((r.1.1.length:Int)<(l.length:Int))=decide (r.1.1.length<l.length):=HX.2 A4;rw[hd];show Yd _ (cond (decide<|r.1.1.length<l.length) (some 1)<|some 0);cases hq:decide (r.1.1.length<l.length)
   .exact AU (.inr ⟨hP,.inr (.inr ⟨h1,h2,r.1.1,h3,h4,by rw[hq];rfl⟩)⟩)
   .exact AU (.inr ⟨hP,.inr (.inr ⟨h1,h2,r.1.1,h3,h4,by rw[hq];rfl⟩)⟩)
 cases l with
 |nil=>obtain⟨F,hF⟩:∃F,18446744073709551616=F+1:=⟨18446744073709551615,rfl⟩;rw[hF];exact fin (λA x y C e=>by cases A<;>cases e) λ_=>none
 |cons a T=>
  refine iu (a::T) (λ(_:Unit) i=>i) (λA _=>A≠[]/\Asc A) (λA x C s k hA hP next=>?_) (λs k hP=>?_) [a] T (s0:=()) rfl ⟨AX,λA x y C e=>by have:=congrArg List.length e;simp at this;omega⟩ A4
  .rw[CE hA,BI];let⟨h0,hP⟩:=hP;obtain rfl|⟨B,y,rfl⟩:A=[]\/∃B y,A=B++[y]:=(iP A).imp id λ⟨B,y,h⟩=>⟨B,y,by rw[h,List.concat_eq_append]⟩
   .exact absurd rfl h0
   .have i1:AB (a::T) (B.length:Int)=some y:=by rw[JO,hA];simp
    have i2:=Bn hA;have al:=Cz hA;have f:=C7 hA A4;have en:(B++[y]).length=B.length+1:=AX;have nx:=next ()
    have H9:=aaU (l:=a::T) (A:=B) (x:=y) (y:=x) (C:=C) (by rw[hA];simp) hP
    generalize (B++[y]).length=m at*
    subst en;refine A6 (x:=(B.length:Int)) (by rw[EW ⟨A4,A4⟩];exact congrArg some A4)<|A6 i1<|A6 i2<|A6 (nE y.1 x.1) ?_
    refine Ac (λhv=>AU<| .inl ⟨rfl,λc=>?_⟩) λhv=>A6 f (nx ⟨AX,H9 (by simpa using hv)⟩)
    have:=c B y x C (by rw[hA];simp);have h9: ¬JZ y.1 x.1:=by simpa using hv
    exact h9 this
  .rw[CP,As];exact fin hP.2 k
def ak3(o:∀h∈l,Bs h)(I:CH S (l.map rh))(hb:b.Pairwise HF)(hm:∀h,h∈b↔h∈l/\rh h∈S.map (·.1)):b.length=S.length:=by
 have nS:(S.map (·.1)).Nodup:=Nb.2<|I.RA.imp λh=>h
 have nb:(b.map rh).Nodup:=Nb.2 (UB (λ{x y} mx my h e=>by rw[Ph (o x ((hm x).1 mx).1) (o y ((hm y).1 my).1) e] at h;exact Zi _ h) hb)
 have h1:=Ml nb λx mx=>by obtain⟨h,mh,rfl⟩:=BU.1 mx;exact((hm h).1 mh).2
 have h2:=Ml nS λx mx=>by obtain⟨f,mf,rfl⟩:=BU.1 mx;let⟨h,mh,e⟩:=BU.1 (I.Eg f mf).1;refine BU.2 ⟨h,(hm h).2 ⟨mh,?_⟩,e⟩;rw[e];exact BU.2 ⟨f,mf,rfl⟩
 rw[Be,Be] at h1 h2;omega
def ah0{s:AD}(h:s.length<=100):db s=some 0:=by
 have abU:Yd (λk=>0<=k/\k<=(s.length:Int)) (L3 s):=by
  unfold L3;refine CB s (λ(_:Unit) i=>i) (λA _=>True) (λA x C u k hA _ next=>?_) (λu k _=>?_) (s0:=()) trivial A4
  .have al:=Cz hA;rw[CE hA,BI];exact A6 (Bn hA)<|Ac (λ_=>AU ⟨A4,A4⟩) λ_=>A6 (C7 hA A4)<|next () trivial
  .rw[CP,As];exact AU ⟨A4,A4⟩
 have sgn:∀t:AD,Yd (λr=>r<0->0<t.length) (Jd t):=λt=>by
  unfold Jd;refine Ac (λ_=>AU λc=>absurd c<|Int.lt_irrefl 0) λ_=>?_
  cases t with
  |nil=>exact AU λc=>absurd c Le
  |cons x t=>rw[B4 (show(0:Int)<((x::t).length:Int) by simp),show gd true true=true from rfl,Cs rfl];exact A6 (x:=x) rfl (Ac (λ_=>AU λ_=>by simp) λ_=>AU λ_=>by simp)
 have abs:∀t:AD,t.length<=100->Yd (λr=>r.length<=100) (TT t):=λt ht=>by
  unfold TT;refine Ap (sgn t) λr hr=>Ac (λhc=>?_) λ_=>AU ht
  have:=hr<|Ar hc
  exact A6 (E5 A4 A4 A4) (AU (by rw[Ih,E1];omega))
 have num:Yd (λr=>r.length<=100) (TQ s):=by unfold TQ;exact Ap abU λk hk=>A6 (E5 A4 A4 A4) (AU (by rw[Ih,E1];omega))
 have den:Yd (λr=>r.length<=100) (TR s):=by
  unfold TR;refine Ap abU λk hk=>Ac (λ_=>AU Le) λhc=>?_
  have:=Bg hc;exact A6 B9 (A6 (E5 A4 A4 A4) (AU (by rw[Ih,E1];omega)))
 refine Fz ?_;unfold db;refine Ap num λa ha=>Ap (abs a ha) λb hb=>?_
 rw[Bo (show¬(600:Int)<(b.length:Int) by omega),show gd false false=true from rfl,Cs rfl];refine Ap den λc hc=>?_
 rw[Bo (show¬(600:Int)<(c.length:Int) by omega)];exact AU rfl
def afU(h:∀x∈l,x.2.length<=100)(hl:l.length<=100000000):bh l=some 0:=by
 refine Fz ?_;unfold bh;refine CB l (λ(_:Unit) i=>i) (λA _=>True) (λA x C u k hA _ next=>?_) (λu k _=>?_) (s0:=()) trivial A4
 .rw[CE hA,BI];refine A6 (Bn hA)<|A6 (ah0<|h x<|at_mem hA) ?_
  rw[show(!decide ((0:Int)=0))=false from rfl,As];exact A6 (C7 hA A4)<|next () trivial
 .rw[CP,As];exact AU rfl
def agD(hl:l.length<=100000000):P0 l l=some true:=by
 refine Fz ?_;unfold P0;rw[B4 rfl,PY,As];refine CB l (λ(_:Unit) i=>i) (λA _=>True) (λA x C u k hA _ next=>?_) (λu k _=>?_) (s0:=()) trivial A4
 .rw[CE hA,BI];refine A6 (Bn hA)<|A6 (Bn hA) ?_
  rw[B4 rfl,PY,As];exact A6 (C7 hA A4)<|next () trivial
 .rw[CP,As];exact AU rfl
abbrev DH:=A3 BZ
def Small(l:DH):Prop:=(∀h∈l,in3 h.1)/\l.length<=10/\∀h∈l,h.2.length<=14
def OkB(l:DH)(S:A3 CQ):Prop:=(∀h∈l,Bs h)/\CH S (l.map rh)/\∀k∈l.map rh,k∈S.map (·.1)
def ahs{l:DH}(I:CH S (l.map rh))(h: ¬S.length<l.length):∀k∈l.map rh,k∈S.map (·.1):=λk mk=>Co λc=>by
 have nS:(k::S.map (·.1)).Nodup:=List.nodup_cons.2 ⟨c,Nb.2<|I.RA.imp λh=>h⟩;have:=Ml nS λx mx=>(Aq.1 mx).elim (λe=>by rw[e];exact mk) λm=>by obtain⟨f,mf,rfl⟩:=BU.1 m;exact(I.Eg f mf).1
 simp at this;omega
theorem Yb{l:DH}(hs:Small l):∃k,NC l=some k/\Jc l=some k.2/\(k.2=0->OkB l k.1):=by
 let⟨hi,l10,short⟩:=hs;let⟨c,c1,c2,c3⟩:=tT (λh mh=>⟨hi h mh,short h mh⟩) A4;have d32:decide ((32:Int)<(l.length:Int))=false:=Bo A4;by_cases h0:c=0
 .subst h0;have o:=c3 rfl;let⟨k,k1,k2⟩:=wT o c1 A4;let⟨r,r1,r2⟩:=aev o c2 A4;have kr:k.2=r:=by
   rcases k2 with⟨e,h⟩|⟨h,k2⟩<;>rcases r2 with⟨e',h'⟩|⟨h',r2⟩
   .rw[e,e']
   .grind
   .grind
   .rcases k2 with⟨e,n⟩|⟨e,n1,n2⟩|⟨I,e⟩<;>rcases r2 with⟨e',n'⟩|⟨e',n1',n2'⟩|⟨n1',n2',b',p1,p2,e'⟩
    .rw[e,e']
    .grind
    .grind
    .grind
    .rw[e,e']
    .grind
    .exact absurd I.bdd n'
    .exact absurd I.int n2'
    .rw[e,e',ak3 o I p1<|p2 _ I]
  refine⟨k,k1,by rw[kr];exact r1,λz=>?_⟩;rcases k2 with⟨e,h⟩|⟨h,⟨e,_⟩|⟨e,_⟩|⟨I,e⟩⟩
  .grind
  .grind
  .grind
  .refine⟨o,I,ahs I λc=>?_⟩;rw[e,B4 c] at z;cases z
 .refine⟨([],c),?_,?_,λz=>absurd z h0⟩
  .unfold NC;rw[d32,As,c1];show cond (!decide (c=0)) _ _=_;rw[Bo h0];rfl
  .unfold Jc;rw[d32,As,c2];show cond (!decide (c=0)) _ _=_;rw[Bo h0];rfl
def Yd.afF(h:S.length<=1000):Yd (λr=>r=S.map (·.1)) (Sx S):=by
 unfold Sx;refine CB S (λ(t:A3 H3) i=>(t,i)) (λA t=>t=A.map (·.1)) (λA f C t k hA hP next=>?_) (λt k hP=>?_) (s0:=[]) rfl A4
 .dsimp;have al:=Cz hA;rw[CE hA,BI];exact A6 (Bn hA) (A6 (app_1 A4 (by rw[hP,Be];omega)) (A6 (C7 hA A4) (next _ (by rw[hP];simp))))
 .dsimp;rw[CP,As];exact AU hP
def Wu(y x:DH):Prop:= ¬IH (y.map rh++x.map rh)
def Qm(f:DH->Int):A3 DH->Int
 |[]=>0|x::l=>if f x=0 then Qm f l else f x
def o4{f:DH->Int}{x:DH}{C:A3 DH}(hx:f x≠0):∀{A:A3 DH},(∀y∈A,f y=0)->Qm f (A++x::C)=f x
 |[],_=>by rw[K7,Qm,if_neg hx]
 |y::A,h=>by rw[SA,Qm,if_pos<|h y Dc];exact o4 hx λz mz=>h z<|By _ mz
def oZ{f:DH->Int}:∀{A:A3 DH},(∀y∈A,f y=0)->Qm f A=0
 |[],_=>rfl
 |y::A,h=>by rw[Qm,if_pos<|h y Dc];exact oZ λz mz=>h z<|By _ mz
def QJ{A:A3 α}{x:α}{p:α->Prop}(h:∀y∈A,p y)(hx:p x):∀y∈A++[x],p y:=λy my=>(C3.1 my).elim (h y) λm=>by rw[Cn.1 m];exact hx
def XC(f:DH->Int)(l:A3 DH)(v:Int):Prop:=(Qm f l≠0/\v=Qm f l)\/(Qm f l=0/\((v=16/\ ¬l.Pairwise Wu)\/(v=0/\l.Pairwise Wu)))
theorem XC.same{f:DH->Int}{l:A3 DH}{v w:Int}(a:XC f l v)(b:XC f l w):v=w:=by unfold XC at a b;grind
theorem mP{l:A3 DH}(hl:l.length<=64)(hs:∀x∈l,Small x):Yd (XC (λx=>(Jc x).getD 0) l) (O6 l):=by
 have cb:∀x∈l,Jc x=some ((Jc x).getD 0):=λx mx=>by
  let⟨k,_,e,_⟩:=Yb<|hs x mx
  rw[e];rfl
 unfold O6;rw[Bo (show¬(64:Int)<(l.length:Int) by omega),As];refine CB l (λ(_:Unit) i=>i) (λA _=>∀y∈A,(Jc y).getD 0=0) (λA x C s k hA hP next=>?_) (λs k hP=>?_) (s0:=()) AX A4
 .rw[CE hA,BI];refine A6 (Bn hA) (A6 (cb x<|at_mem hA) (Ac (λhc=>AU<| .inl ?_) λhc=>A6 (C7 hA A4) (next () (QJ hP (by simpa using hc)))));have hx:(Jc x).getD 0≠0:=by simpa using hc
  have:=o4 (f:=λx=>(Jc x).getD 0) (C:=C) hx hP;rw[hA,this];exact⟨hx,rfl⟩
 .rw[CP,As];have f0:=oZ (f:=λx=>(Jc x).getD 0) hP;refine CB l (λ(_:Unit) i=>i) (λA _=>A.Pairwise Wu) (λA x C s k hA hQ next=>?_) (λs k hQ=>?_) (s0:=()) List.Pairwise.nil A4
  .rw[CE hA,BI];have al:=Cz hA;have mx:=at_mem hA;let⟨kx,_,ex,hx⟩:=Yb<|hs x mx
   let⟨ox,Ix,_⟩:=hx (by have:=hP x mx;rw[ex] at this;exact this);refine CB A (λ(_:Unit) i=>i) (λB _=>∀y∈B,Wu y x) (λB y D s k2 hB hU Fp=>?_) (λs k2 hU=>?_) (s0:=()) AX A4
   .rw[CE hB,BI];have my:y∈l:=AL;let⟨ky,_,ey,hy⟩:=Yb<|hs y my
    let⟨oy,_,_⟩:=hy (by have:=hP y my;rw[ey] at this;exact this);have iy:AB l (B.length:Int)=some y:=Bn (C:=D++x::C) (by rw[hA,hB];simp);have s1:=(hs x mx).2.1;have s2:=(hs y my).2.1;refine A6 (Bn hA)<|A6 iy<|Ap (agH Ix ox oy A4) λr hr=>Ac (λhc=>AU<| .inr ⟨f0,.inl ⟨rfl,λc=>?_⟩⟩) λhc=>A6 (C7 hB A4)<|Fp ()<|QJ hU λc=>?_
    .rw[hA] at c;exact(LK.1 c).2.2 y (at_mem hB) x Dc<|hr.1 hc
    .grind
   .rw[CP,As];exact A6 (C7 hA A4) (next () (LK.2 ⟨hQ,SC _ _,λy my z mz=>by rw[Cn.1 mz];exact hU y my⟩))
  .rw[CP,As];exact AU<| .inr ⟨f0,.inr ⟨rfl,hQ⟩⟩
theorem aiP{l:A3 DH}(hl:l.length<=64)(hs:∀x∈l,Small x):Yd (λr=>XC (λx=>(Jc x).getD 0) l r.2/\(r.2=0->∃W:A3 (DH×A3 CQ),l=W.map (·.1)/\r.1=W.map (·.2)/\∀w∈W,OkB w.1 w.2/\NC w.1=some (w.2,0))) (Lf l):=by
 unfold Lf;rw[Bo (show¬(64:Int)<(l.length:Int) by omega),As];refine CB l (λ(t:A3 (A3 CQ)) i=>(t,i)) (λA t=>(∀y∈A,(Jc y).getD 0=0)/\∃W:A3 (DH×A3 CQ),A=W.map (·.1)/\t=W.map (·.2)/\∀w∈W,OkB w.1 w.2/\NC w.1=some (w.2,0)) (λA x C t k hA hP next=>?_) (λt k hP=>?_) (s0:=[]) ⟨AX,[],rfl,rfl,AX⟩ A4
 .dsimp;rw[CE hA,BI];have al:=Cz hA;let⟨kx,e1,e2,hx⟩:=Yb<|hs x<|at_mem hA
  have ge:(Jc x).getD 0=kx.2:=by rw[e2];rfl
  let⟨h0,W,w1,w2,w3⟩:=hP;have tl:t.length=A.length:=AL;refine A6 (Bn hA)<|A6 e1<|Ac (λhc=>AU ⟨.inl ?_,λc=>?_⟩) λhc=>A6 (app_1 A4 A4)<|A6 (C7 hA A4)<|next _ ?_
  .have hx:(Jc x).getD 0≠0:=by rw[ge];simpa using hc
   have:=o4 (f:=λx=>(Jc x).getD 0) (C:=C) hx h0;rw[hA,this];exact⟨hx,ge.symm⟩
  .grind
  .have z:kx.2=0:=by simpa using hc
   exact⟨QJ h0<|ge.trans z,W++[(x,kx.1)],by rw[w1];simp,by rw[w2];simp,QJ w3 ⟨hx z,by rw[e1,<-z]⟩⟩
 .dsimp;rw[CP,As];let⟨h0,W,w1,w2,w3⟩:=hP;have f0:=oZ (f:=λx=>(Jc x).getD 0) h0;have wl:W.length<=64:=AL;rw[w2];have ml:(W.map (·.2)).length=W.length:=Be _;refine CB W (λ(_:Unit) i=>i) (λA _=>(A.map (·.1)).Pairwise Wu) (λA x C s k hA hQ next=>?_) (λs k hQ=>?_) (s0:=()) List.Pairwise.nil A4
  .rw[ml,CE hA,BI];have al:=Cz hA;have mx:=at_mem hA;let⟨ox,Ix,fx⟩:=(w3 x mx).1;have sb:C6 (W.map (·.2)) 0 (A.length:Int)=some (A.map (·.2)):=by rw[E5 A4 A4 (by rw[ml];omega),hA];simp
   refine A6 (Kd _ hA)<|A6 sb ?_
   have ma:(A.map (·.2)).length=A.length:=Be _;refine CB A (λ(_:Unit) i=>i) (λB _=>∀y∈B,Wu y.1 x.1) (λB y D s k2 hB hU Fp=>?_) (λs k2 hU=>?_) (s0:=()) AX A4
   .rw[ma,CE hB,BI];have my:y∈W:=AL;let⟨oy,Iy,fy⟩:=(w3 y my).1;have s1:=(hs x.1 (by rw[w1];exact BU.2 ⟨x,mx,rfl⟩)).2.1;have s2:=(hs y.1 (by rw[w1];exact BU.2 ⟨y,my,rfl⟩)).2.1;have ly:=Iy.len;rw[Be] at ly;have fw:∀k∈y.2.map (·.1),k∈y.1.map rh:=λk mk=>by obtain⟨f,mf,rfl⟩:=BU.1 mk;exact(Iy.Eg f mf).1
    have Gb:JQ 14 (y.2.map (·.1)++x.1.map rh):=λg mg=>(C3.1 mg).elim (λm=>Bs.Gb oy g<|fw g m)<|Bs.Gb ox g
    have pr:∀g∈y.2.map (·.1)++x.1.map rh,IG g.1:=λg mg=>(C3.1 mg).elim (λm=>Bs.Qr oy g<|fw g m)<|Bs.Qr ox g
    refine A6 (Kd _ hB)<|Ap (Yd.afF A4) λH eH=>?_
    rw[eH];refine Ap (Yd.lf Ix Gb A4 DD (λh mh=>(pr h<|IB _ mh).nz) λa ma b mb=>Vf (pr a ma)<|pr b mb) λr hr=>?_
    have hr:r.2=true↔IH (y.1.map rh++x.1.map rh):=by
     rcases hr with⟨e,N,n1,_,n3⟩|⟨e,hn⟩
     .refine⟨λ_=>?_,λ_=>e⟩;let⟨q,hq⟩:=n3.int;exact⟨q,λg mg=>hq g<|(n1 g).2<|(C3.1 mg).imp (fy g) id⟩
     .refine⟨λc=>(by rw[e] at c;cases c),λ⟨q,hq⟩=>absurd ⟨q,λg mg=>hq g ?_⟩ hn⟩;exact C3.2<|(C3.1 mg).imp (fw g) id
    refine Ac (λhc=>AU ⟨.inr ⟨f0,.inl ⟨rfl,λc=>?_⟩⟩,λc=>by cases c⟩) λhc=>A6 (C7 hB A4)<|Fp ()<|QJ hU λc=>?_
    .rw[w1,hA,Ge,MK] at c;exact(LK.1 c).2.2 y.1 (BU.2 ⟨y,at_mem hB,rfl⟩) x.1 Dc<|hr.1 hc
    .grind
   .rw[ma,CP,As];refine A6 (C7 hA A4)<|next () ?_
    rw[Ge];refine LK.2 ⟨hQ,SC _ _,λy my z mz=>?_⟩;obtain⟨w,mw,rfl⟩:=BU.1 my;rw[Cn.1 mz];exact hU w mw
  .rw[ml,CP,As];exact AU ⟨.inr ⟨f0,.inr ⟨rfl,by rw[w1];exact hQ⟩⟩,λ_=>⟨W,w1,rfl,w3⟩⟩
def aer{l:DH}{n k:Nat}(hn:n<=100000000):Yd (λb=>b=true->l.length<=n/\∀h∈l,h.2.length<=k) (bb l (n:Int) (k:Int)):=by
 unfold bb;refine Ac (λ_=>AU λc=>by cases c) λhc=>?_
 have hl:l.length<=n:=by have:=Bg hc;omega
 refine CB l (λ(_:Unit) i=>i) (λA _=>∀h∈A,h.2.length<=k) (λA x C u k hA hP next=>?_) (λu k hP=>?_) (s0:=()) AX A4
 .rw[CE hA,BI];refine A6 (Bn hA) (Ac (λ_=>AU λc=>by cases c) λhc=>A6 (C7 hA A4)<|next ()<|QJ hP ?_);have:=Bg hc;omega
 .rw[CP,As];exact AU λ_=>⟨hl,hP⟩
def fP{l:A3 DH}{n:Nat}(hn:n<=100000000):Yd (λb=>b=true->l.length<=n/\∀x∈l,x.length<=10/\∀h∈x,h.2.length<=14) (VG l (n:Int)):=by
 unfold VG;refine Ac (λ_=>AU λc=>by cases c) λhc=>?_
 have hl:l.length<=n:=by have:=Bg hc;omega
 refine CB l (λ(_:Unit) i=>i) (λA _=>∀x∈A,x.length<=10/\∀h∈x,h.2.length<=14) (λA x C u k hA hP next=>?_) (λu k hP=>?_) (s0:=()) AX A4
 .rw[CE hA,BI];refine A6 (Bn hA) (Ap (aer (n:=10) (k:=14) A4) λb hb=>Ac (λ_=>AU λc=>by cases c) λhc=>A6 (C7 hA A4)<|next ()<|QJ hP<|hb ?_);simpa using hc
 .rw[CP,As];exact AU λ_=>⟨hl,hP⟩
end
section
variable{s:List UInt8}(h:s.length<=100)
include h
theorem y5:Yd (λk=>0<=k/\k<=(s.length:Int)) (L3 s):=by
 unfold L3;refine CB s (λ(_:Unit) i=>i) (λA _=>True) (λA x C u k hA _ next=>?_) (λu k _=>?_) (s0:=()) trivial A4
 .have al:=Cz hA;rw[CE hA,BI];exact A6 (Bn hA)<|Ac (λ_=>AU ⟨A4,A4⟩) λ_=>A6 (C7 hA A4)<|next () trivial
 .rw[CP,As];exact AU ⟨A4,A4⟩
theorem aoH:Yd (λr=>r.length<=100) (TQ s):=by unfold TQ;exact Ap (y5 h) λk hk=>A6 (E5 A4 A4 A4) (AU (by rw[Ih,E1];omega))
theorem aox:Yd (λr=>r.length<=100) (TR s):=by
 unfold TR;refine Ap (y5 h) λk hk=>Ac (λ_=>AU Le) λhc=>?_
 have:=Bg hc;exact A6 B9 (A6 (E5 A4 A4 A4) (AU (by rw[Ih,E1];omega)))
theorem apg:Yd (λ_=>True) (TT s):=by
 unfold TT Jd;have fin:∀r:Int,(r<0->0<s.length)->Yd (λ_=>True) (cond (decide<|r<0) (bd (C6 s 1 (s.length:Int)) λx4=>some x4)<|some s):=λr hr=>Ac (λhc=>by
  have:=hr<|Ar hc
  exact A6 (E5 A4 A4 A4)<|AU trivial) λ_=>AU trivial
 refine Ap (S:=λr=>r<0->0<s.length) (Ac (λ_=>AU λc=>absurd c<|Int.lt_irrefl 0) λ_=>?_) fin;cases s with
 |nil=>exact AU λc=>absurd c Le
 |cons x t=>rw[B4 (show(0:Int)<((x::t).length:Int) by simp),show gd true true=true from rfl,Cs rfl];exact A6 (x:=x) rfl (Ac (λ_=>AU λ_=>by simp) λ_=>AU λ_=>by simp)
end
section
variable{n:Nat}{h:BZ}{l:A3 DH}{S:A3 CQ}{b:DH}{s:HT}{ρ:Type}{M N:A3 H3}
def jJ{α:Type}{R:ρ->Prop}{S:α->Prop}{g:Bool}{d:α}{e:AA α}{K:α->AA ρ}(he:Yd S e)(hd:S d)(k:∀x,S x->Yd R (K x)):Yd R (Trn.B1 g d e K):=by let⟨x,e,hx⟩:=he;exact GJ (λ_=>⟨x,e,k x hx⟩) λ_=>k d hd
def aog{s:AD}(h:s.length<=14):Yd (λ_=>True) (eJ s 5):=by
 let⟨c,_,c2,_⟩:=wW h;unfold eJ;refine A6 (x:=10) rfl<|A6 (x:=12) rfl ?_
 exact jJ (S:=λ_=>True) ⟨c,c2,trivial⟩ trivial λ_ _=>jJ (aoH A4) Le λ_ h7=>jJ (apg h7) trivial λ_ _=>jJ (aox A4) Le λ_ _=>AU trivial
def ahV(hi:in3 h.1)(hl:h.2.length<=14):Yd (λ_=>True) (cW h 999 5):=by
 let⟨c,_,c2,_⟩:=lR hi hl;let⟨f,f1,_⟩:=aog hl;unfold cW;refine A6 c2 ?_;have fin:∀x3:Bool,Yd (λ_=>True) (cond ((!decide (c=0))||(!x3)) (some false) (BH (λk7 (s6:Int)=>cond (decide<|s6<3) (bd (AB ([h.1.1,h.1.2.1,h.1.2.2]:A3 Int) s6) λx9=>bd (AH<|0-999) λB5=>B1 (gd (decide<|x9<B5) false) (0) (AB ([h.1.1,h.1.2.1,h.1.2.2]:A3 Int) s6) λBm=>cond (((decide<|x9<B5)||(decide<|999<Bm))) (some false) (bd (AH<|s6+1) λBS=>k7 BS)) (some true)) 0)):=λx3=>Ac (λ_=>AU trivial) λ_=>by
  refine CB [h.1.1,h.1.2.1,h.1.2.2] (λ(_:Unit) i=>i) (λB _=>True) (λB x D t k2 hB hQ next=>?_) (λt k2 hQ=>?_) (s0:=()) trivial AX
  .have bl:=Cz hB;rw[show [h.1.1,h.1.2.1,h.1.2.2].length=3 from rfl] at bl;rw[B4 (show(B.length:Int)<3 by omega),BI];refine A6 (Bn hB)<|A6 (x:= -999) rfl ?_
   have nx:=A6 (K:=λBS=>k2 BS) (C7 hB AX)<|next () trivial
   exact GJ (λ_=>⟨x,Bn hB,Ac (λ_=>AU trivial) λ_=>nx⟩) λ_=>Ac (λ_=>AU trivial) λ_=>nx
  .rw[show decide ((([h.1.1,h.1.2.1,h.1.2.2].length:Nat):Int)<3)=false from rfl,As];exact AU trivial
 exact GJ (λ_=>⟨f,f1,fin f⟩) λ_=>fin false
def ajJ(hn:n<=60)(hl:l.length<=n)(hs:∀x∈l,Small x):Yd (λ_=>True) (eI l (n:Int) 5):=by
 unfold eI;refine Ap (fP A4) λb hb=>Ac (λ_=>AU trivial) λ_=>?_
 refine CB l (λ(_:Unit) i=>i) (λA _=>True) (λA x C s k hA hP next=>?_) (λs k hP=>?_) (s0:=()) trivial A4
 .rw[CE hA,BI];let⟨h1,h2,h3⟩:=hs x<|at_mem hA
  refine CB x (λ(_:Unit) i=>i) (λB _=>True) (λB y D s k2 hB hU Fp=>?_) (λs k2 hU=>?_) (s0:=()) trivial A4
  .refine A6 (Bn hA) ?_;rw[CE hB,BI];exact A6 (Bn hA)<|A6 (Bn hB)<|Ap (ahV (h1 y<|at_mem hB)<|h3 y<|at_mem hB) λr _=>Ac (λ_=>AU trivial) λ_=>A6 (C7 hB A4)<|Fp () trivial
  .refine A6 (Bn hA) ?_;rw[CP,As];exact A6 (C7 hA A4)<|next () trivial
 .rw[CP,As];exact Ap (mP A4 hs) λ_ _=>AU trivial
def yj(hn:n<=60)(hi:∀x∈l,∀h∈x,in3 h.1):Yd (λr=>r=false->64<l.length\/(l.length<=n/\∀x∈l,Small x)) (Y2 l (n:Int)):=by
 unfold Y2;refine Ac (λhc=>?_) λhc=>?_
 .have hl:=Ar hc;have big:64<l.length:=A4;refine GJ (λ_=>⟨_,E5 A4 A4 A4,?_⟩) λ_=>?_
  .refine GJ (λ_=>?_) λ_=>AU λ_=> .inl big
   let⟨r,r1,_⟩:=fP (l:=(l.take (1:Int).toNat).drop (0:Int).toNat) (n:=1) A4;exact⟨r,r1,AU λ_=> .inl big⟩
  .refine GJ (λ_=>?_) λ_=>AU λ_=> .inl big
   let⟨r,r1,_⟩:=fP (l:=([]:A3 DH)) (n:=1) A4;exact⟨r,r1,AU λ_=> .inl big⟩
 .refine Ap (fP A4) λb hb=>?_
  cases b with
  |false=>exact AU λc=>by cases c
  |true=>
   let⟨h3,hb⟩:=hb rfl;have hs:∀x∈l,Small x:=λx mx=>⟨hi x mx,hb x mx⟩
   let⟨v,v1,_⟩:=mP A4 hs;let⟨f,f1,_⟩:=ajJ hn h3 hs;refine GJ (λ_=>⟨v,v1,?_⟩) λ_=>GJ (λ_=>⟨f,f1,AU λ_=> .inr ⟨h3,hs⟩⟩) λ_=>AU λ_=> .inr ⟨h3,hs⟩
   exact GJ (λ_=>⟨f,f1,AU λ_=> .inr ⟨h3,hs⟩⟩) λ_=>AU λ_=> .inr ⟨h3,hs⟩
def big(q:Rat):Bool:=decide (600<(B2 q.num.natAbs).length)||decide (600<(B2 q.den).length)
instance(a b:Q3):Decidable (HI a b):=by unfold HI;exact inferInstance
def Ws{α:Type}{b:Nat}{u v:A3 α}(hb:b<=1000)(h:u.length+v.length<=1000000000):BG b u v=some (u++v):=by unfold BG;have h1:(u.length+v.length)*b<=140737488355328:=Ct (HD h hb) A4;rw[B4 h1,B4 (show u.length+v.length<=9223372036854775807 by omega)];rfl
def av7{R:ρ->Prop}{r B D:A3 Q3}(e:r=B++D){l:A3 T3}{i:Int}{x:Q3}(ix:AB l i=some (Bx x))(hl:r.length<=1000000){K:A3 T3->AA ρ}(h:Yd R (K<|(B++x::D).map Bx)):Yd R (Trn.bd (C6 (r.map Bx) 0 (B.length:Int)) λBf=>Trn.bd (BG 48 ([]:A3 T3) Bf) λBq=>Trn.bd (AB l i) λCC=>Trn.bd (BG 48 Bq [CC]) λCJ=>Trn.bd (C6 (r.map Bx) (B.length:Int) (r.length:Int)) λCp=>Trn.bd (BG 48 CJ Cp) K):=by
 subst e;rw[E7] at hl;have m:((B++D).map Bx).length=B.length+D.length:=AX;have s1:C6 ((B++D).map Bx) 0 (B.length:Int)=some (B.map Bx):=by rw[E5 A4 A4 A4];simp[Ge,WA]
 have s2:C6 ((B++D).map Bx) (B.length:Int) ((B++D).length:Int)=some (D.map Bx):=by rw[E5 A4 DD (by rw[m];simp),Cg,Cg,D5 AX,Ge];simp[NX]
 refine A6 s1<|A6 (Ws A4 DD)<|A6 ix<|A6 (Ws A4 DD)<|A6 s2<|A6 (Ws A4 DD) ?_
 have:[]++B.map Bx++[Bx x]++D.map Bx=(B++x::D).map Bx:=AX;rw[this];exact h
def abN:∀{l:A3 BZ},Asc l->l.Pairwise HF
 |[],_=>List.Pairwise.nil|[x],_=>SC _ _
 |x::y::l,h=>by
  have ih:=abN (l:=y::l) λA a b C e=>h (x::A) a b C (by rw[e];rfl)
  have xy:HF x y:=h [] x y l rfl;refine JF.2 ⟨λz mz=>?_,ih⟩;rcases Aq.1 mz with e|m
  .rw[e];exact xy
  .exact aQ xy<|(JF.1 ih).1 z m
def agq{l:DH}(hs:Small l)(h:NC l=some (S,0)):OkB l S/\l.Pairwise HF:=by
 let⟨k,k1,_,k3⟩:=Yb hs;rw[h] at k1;cases k1;refine⟨k3 rfl,?_⟩;let⟨hi,l10,short⟩:=hs;let⟨c,c1,_,c3⟩:=tT (λh mh=>⟨hi h mh,short h mh⟩) A4;by_cases h0:c=0
 .subst h0;let⟨k,e,k2⟩:=wT (c3 rfl) c1 A4;rw[h] at e;cases e;rcases k2 with⟨e,_⟩|⟨a,_⟩
  .cases e
  .exact abN a
 .unfold NC at h;rw[Bo (show¬(32:Int)<(l.length:Int) by omega),As,c1] at h;have h:cond (!decide (c=0)) (some (([]:A3 CQ),c)) _=some (S,0):=h;rw[Bo h0] at h;exact absurd (congrArg Prod.snd<|E8 h) h0
structure Q0(l:DH)(S:A3 CQ)(s:HT):Prop where
 ok:∀h∈l,Bs h
 I:CH S (l.map rh)
 R:∃Z,RS s (l.map rh) Z
def agK{l:DH}(h:OkB l S)(hl:l.length<=50):Yd (λs=>Q0 l S s) (V7 l):=(v7 h.1 hl h.2.1).imp λs hs=>⟨h.1,h.2.1,hs⟩
def Q0.mem{l:DH}(P:Q0 l S s)(h:BZ):h∈s.1↔h∈l/\rh h∈S.map (·.1):=by
 let⟨Z,R⟩:=P.R;constructor
 .intro mh;have mr:rh h∈s.1.map rh:=BU.2 ⟨h,mh,rfl⟩;let⟨g,mg,e⟩:=BU.1 ((R.fac<|rh h).1 mr).1;rw[<-Ph (P.ok g mg) (R.ok h mh) e];exact⟨mg,by rw[e];exact(R.O0 P.I _).1 mr⟩
 .rintro⟨mh,mf⟩;let⟨g,mg,e⟩:=BU.1<|(R.O0 P.I _).2 mf
  rw[<-Ph (R.ok g mg) (P.ok h mh) e];exact mg
def ais{l:DH}(P:Q0 l S s)(hl:l.length<=32):Sy S=some (s.1,0):=by
 let⟨r,e,r1,_,r3,r4⟩:=anZ P.ok P.I hl;let⟨Z,R⟩:=P.R;have:r.1=s.1:=aiM r3 R.H9 (λx _ y _ a c=>Zi _<|aQ a c) λh=>by rw[r4,P.mem]
 rw[e,<-this,<-r1]
def ajQ{l:DH}(P:Q0 l S s)(oh:Bs h)(hl:l.length<=31):∃r q,Mf S (rh h)=some r/\NL s h=some q/\((r.2=true/\q.2=true/\Q0 (h::l) r.1 q.1)\/(r.2=false/\q.2=false/\ ¬IH (rh h::l.map rh))):=by
 have o:∀g∈h::l,Bs g:=λg mg=>(Aq.1 mg).elim (λe=>by rw[e];exact oh)<|P.ok g
 have Gb:JQ 14 (rh h::l.map rh):=Bs.Gb o;have pr:∀g∈rh h::l.map rh,IG g.1:=Bs.Qr o;have ll:(l.map rh).length<=31:=by rw[Be];exact hl
 let⟨Z,R⟩:=P.R;let⟨r,r1,r2⟩:=Yd.nB P.I Gb A4 A4 oh.jy.nz λa ma b mb=>Vf (pr a ma)<|pr b mb
 let⟨q,q1,q2⟩:=wA R P.I oh (Bs.Gb P.ok) (Bs.Qr P.ok) ll;refine⟨r,q,r1,q1,?_⟩;rcases r2 with⟨e,I⟩|⟨e,n⟩<;>rcases q2 with⟨f,hZ,S',I'⟩|⟨f,m⟩
 .exact .inl ⟨e,f,o,I,hZ⟩
 .exact absurd I.int m
 .exact absurd I'.int n
 .exact .inr ⟨e,f,n⟩
def wj(h:∀k,k∈N↔k∈M)(p:Q3):Br N p↔Br M p:=⟨λv=>⟨λk mk=>v.1 k<|(h k).2 mk,λd hd=>v.2 d λk mk=>hd k<|(h k).1 mk⟩,λv=>⟨λk mk=>v.1 k<|(h k).1 mk,λd hd=>v.2 d λk mk=>hd k<|(h k).2 mk⟩⟩
def CH.congr(I:CH S M)(h:∀k,k∈N↔k∈M):CH S N:=by
 refine⟨λd hd=>?_,?_,λk mk=>I.nz k<|(h k).1 mk,λa ma b mb=>I.norm a ((h a).1 ma) b<|(h b).1 mb,λf mf=>?_,I.RA,λp hp ht=>?_⟩
 .obtain⟨k,mk,e⟩:=I.bdd d hd;exact⟨k,(h k).2 mk,e⟩
 .obtain⟨o,ho⟩:=I.int;exact⟨o,λk mk=>ho k<|(h k).1 mk⟩
 .obtain⟨a,b,c,d⟩:=I.Eg f mf;exact⟨(h _).2 a,b,c,λp=>by rw[d,wj h]⟩
 .obtain⟨k,mk,t⟩:=ht;exact I.cover p (λg mg=>hp g<|(h g).2 mg) ⟨k,(h k).1 mk,t⟩
def RS.congr{Z:ZL}(R:RS s M Z)(h:∀k,k∈N↔k∈M):RS s N Z:=⟨R.ok,R.H9,λk=>by rw[R.fac,h],R.cor,R.on,R.nd,λp=>by rw[R.mem,wj h],R.H6⟩
def afa{l:DH}(P:Q0 l S s)(ob:∀h∈b,Bs h)(hl:l.length+b.length<=32):∃r q,Oy S (b.map rh)=some r/\Uy s b=some q/\((r.2=true/\q.2=true/\Q0 (b++l) r.1 q.1/\IH (b.map rh++l.map rh))\/(r.2=false/\q.2=false/\ ¬IH (b.map rh++l.map rh))):=by
 have o:∀g∈b++l,Bs g:=λg mg=>(C3.1 mg).elim (ob g)<|P.ok g
 have Gb:JQ 14 (b.map rh++l.map rh):=by rw[<-Ge];exact Bs.Gb o
 have pr:∀g∈b.map rh++l.map rh,IG g.1:=by rw[<-Ge];exact Bs.Qr o
 let⟨Z,R⟩:=P.R;let⟨r,r1,r2⟩:=Yd.lf P.I Gb A4 DD (λh mh=>(pr h<|IB _ mh).nz) λa ma c mc=>Vf (pr a ma)<|pr c mc
 let⟨q,q1,q2⟩:=uf R P.I P.ok ob hl;refine⟨r,q,r1,q1,?_⟩;have at_:∀{N:A3 H3},(∀k,k∈N↔k∈b.map rh\/k∈l.map rh)->∀k,k∈(b++l).map rh↔k∈N:=λn k=>by rw[n,Ge,C3]
 have inn:∀{N:A3 H3} {T:A3 CQ},(∀k,k∈N↔k∈b.map rh\/k∈l.map rh)->CH T N->IH (b.map rh++l.map rh):=λn I=>by let⟨z,hz⟩:=I.int;exact⟨z,λg mg=>hz g<|(n g).2<|C3.1 mg⟩
 rcases r2 with⟨e,N,n1,_,I1⟩|⟨e,n⟩<;>rcases q2 with⟨f,N',T,Z',m1,R1,J1⟩|⟨f,m⟩
 .exact .inl ⟨e,f,⟨o,I1.congr<|at_ n1,Z',R1.congr<|at_ m1⟩,inn n1 I1⟩
 .exact absurd (inn n1 I1) m
 .exact absurd (inn m1 J1) n
 .exact .inr ⟨e,f,n⟩
def aag:∀{u t:AD},(∀x∈u,x≠47)->sp (u++t)=(u++(sp t).1,(sp t).2.1,(sp t).2.2)
 |[],t,_=>rfl
 |b::u,t,h=>by
  rw[SA];unfold sp;have:(b==47)=false:=ZY.2<|h b Dc
  rw[this,As,aag λx mx=>h x<|By _ mx];cases t<;>rfl
def nL{q:Rat}(h:bq q 14):MD (BV q)=some q:=by
 have e:BV q=bif decide (q.num<0) then 45::(B2 q.num.natAbs++F0 q) else B2 q.num.natAbs++F0 q:=by unfold BV Cf F0;cases decide (q.num<0)<;>cases decide (q.den=1)<;>simp
 have hl:=jH h A4;have tl:(F0 q).length<=15:=by
  unfold F0;cases decide (q.den=1)
  .simp;omega
  .simp
 let⟨n1,n2⟩:=Li q.num.natAbs;let⟨d1,d2⟩:=Li q.den;have sc:sp (B2 q.num.natAbs++F0 q)=(B2 q.num.natAbs,(bif decide (q.den=1) then [] else B2 q.den),!decide (q.den=1)):=by
  rw[aag<|o5 _];unfold F0;cases decide (q.den=1)
  .show(B2 q.num.natAbs++[],B2 q.den,true)=_;rw[Ig];rfl
  .show(B2 q.num.natAbs++[],[],false)=_;rw[Ig];rfl
 have rd:Hq (bif decide (q.num<0) then 45::B2 q.num.natAbs else B2 q.num.natAbs)=some q.num:=by
  cases hd:decide (q.num<0)
  .have:=Bg hd;rw[As,Vi n1 A4,n2]
   congr 1;omega
  .have:=Ar hd;rw[BI,xn n1 A4,n2]
   congr 1;omega
 rw[e];unfold MD;rw[oi (by rw[E7];omega),sc];cases hd:decide (q.den=1)
 .have h0:=Bg hd;have dn:=q.den_pos;let⟨r,m1,m2,m3⟩:=aax (a:=q.num) (d:=q.den) A4 q.reduced;have er:r=q:=Rat.ext m2 m3;show bd (Hq (bif decide (q.num<0) then 45::B2 q.num.natAbs else B2 q.num.natAbs)) _=_;rw[rd];show bd (Hq<|B2 q.den) _=_;rw[Vi d1 A4,d2];show bd (mkq q.num (q.den:Int)) _=_;rw[m1,er];rfl
 .have h0:=Ar hd;show bd (Hq (bif decide (q.num<0) then 45::B2 q.num.natAbs else B2 q.num.natAbs)) _=_;rw[rd];show some (q.num:Rat)=some q
  congr 1
  exact Rat.ext (S5 _) (by rw[Tz,h0])
def Kj(h:BZ):BZ:=((-h.1.1,-h.1.2.1,-h.1.2.2),BV<| -rq h.2)
def od{x:Int}(h:EY x=false):EY (-x)=false:=by have:=Mt h;unfold EY;rw[Bo A4,Bo A4];rfl
def Bs.GF(o:Bs h):Bs (Kj h):=by
 have b:=qm o.num.2.1;have e:rq (BV<| -rq h.2)= -rq h.2:=by show(MD<|BV<| -rq h.2).getD 0=_;rw[nL b];rfl
 refine⟨?_,od o.x,od o.y,od o.z,?_⟩
 .show isNum (BV<| -rq h.2) (rq<|BV<| -rq h.2);rw[e];exact⟨rfl,b,nL b⟩
 .show Nat.gcd (Nat.gcd (-h.1.1).natAbs (-h.1.2.1).natAbs) (-h.1.2.2).natAbs=1;rw[W0,W0,W0];exact o.g
def ao5(o:Bs h):rh (Kj h)=((-(rh h).1.1,-(rh h).1.2.1,-(rh h).1.2.2),-(rh h).2):=by
 have b:=qm o.num.2.1;have e:rq (BV<| -rq h.2)= -rq h.2:=by show(MD<|BV<| -rq h.2).getD 0=_;rw[nL b];rfl
 show(rn (-h.1.1,-h.1.2.1,-h.1.2.2),rq<|BV<| -rq h.2)=_;rw[e];unfold rn;rw[Rat.intCast_neg,Rat.intCast_neg,Rat.intCast_neg];rfl
def akP(o:Bs h):XI (rh h)=some (rh<|Kj h):=by
 rw[ao5 o];unfold XI lr
 rfl
def amE(o:Bs h):br h=some (Kj h):=by
 have a:=Mt o.x;have b:=Mt o.y;have c:=Mt o.z;have t:=o.txt;have n:=zT o.num.2.1 A4;refine Fz ?_;unfold br;rw[t];refine A6 B9<|A6 B9<|A6 B9<|A6 n<|AU ?_
 unfold Kj;rw[gp,gp,gp]
abbrev PS:=DH×A3 CQ×HT
def Hg(n:Nat)(v:PS):Prop:=Q0 v.1 v.2.1 v.2.2/\v.1.length<=n
def Hg.mono{m:Nat}{v:PS}(h:Hg m v)(hn:m<=n):Hg n v:=⟨h.1,Ct h.2 hn⟩
def noR:HT×Bool:=(([],[],[]),false)
def Gu(v:PS)(h:BZ):A3 CQ×Bool:=(Mf v.2.1<|rh h).getD ([],false)
def clR(v:PS)(h:BZ):HT×Bool:=(NL v.2.2 h).getD noR
def stp(v:PS)(h:BZ):PS:=(h::v.1,(Gu v h).1,(clR v h).1)
theorem Ya{v:PS}(P:Hg n v)(hn:n<=31)(oh:Bs h):Mf v.2.1 (rh h)=some (Gu v h)/\NL v.2.2 h=some (clR v h)/\(Gu v h).2=(clR v h).2/\((Gu v h).2=true->Hg (n+1) (stp v h))/\(IH (rh h::v.1.map rh)->(Gu v h).2=true):=by
 let⟨r,q,e1,e2,hr⟩:=ajQ P.1 oh (by have:=P.2;omega);have w:Gu v h=r:=by unfold Gu;rw[e1];rfl
 have u:clR v h=q:=by unfold clR;rw[e2];rfl
 refine⟨by rw[w];exact e1,by rw[u];exact e2,?_,?_,?_⟩
 .grind
 .intro c;rw[w] at c;rcases hr with⟨_,_,p⟩|⟨a,_⟩
  .refine⟨?_,by show v.1.length+1<=n+1;have:=P.2;omega⟩;show Q0 (h::v.1) (Gu v h).1 (clR v h).1;rw[w,u];exact p
  .grind
 .grind
def pce(v:PS)(h:BZ):A3 PS:=bif (Gu v<|Kj h).2 then [stp v<|Kj h] else []
def I3:PS×A3 PS->BZ->PS×A3 PS:=λt h=>(stp t.1 h,t.2++pce t.1 h)
def kW(v:PS)(b:DH):A3 CQ×Bool:=(Oy v.2.1<|b.map rh).getD ([],false)
def pcs(v:PS)(b:DH):A3 PS:=bif (kW v b).2 then(b.foldl I3 (v,[])).2 else [v]
structure GoP(n:Nat)(l:DH)(A:DH)(t:PS×A3 PS):Prop where
 now:Hg (n+A.length) t.1
 mem:∀k,k∈t.1.1↔k∈A\/k∈l
 out:∀v∈t.2,Hg (n+A.length) v
 len:t.2.length<=A.length
theorem oY{l A C:DH}{x:BZ}{t:PS×A3 PS}(h:b=A++x::C)(ob:∀h∈b,Bs h)(hn:n+b.length<=31)(hi:IH (b.map rh++l.map rh))(G:GoP n l A t):Mf t.1.2.1 (rh<|Kj x)=some (Gu t.1<|Kj x)/\NL t.1.2.2 (Kj x)=some (clR t.1<|Kj x)/\(Gu t.1<|Kj x).2=(clR t.1<|Kj x).2/\
  Mf t.1.2.1 (rh x)=some (Gu t.1 x)/\NL t.1.2.2 x=some (clR t.1 x)/\(clR t.1 x).2=true/\GoP n l (A++[x]) (I3 t x):=by
 have al:=Cz h;have mx:=at_mem h;let⟨a1,a2,a3,a4,_⟩:=Ya G.now A4 (ob x mx).GF;let⟨b1,b2,b3,b4,b5⟩:=Ya G.now A4<|ob x mx
 have inn:IH (rh x::t.1.1.map rh):=by
  let⟨o,ho⟩:=hi;refine⟨o,λk mk=>ho k<|C3.2 ?_⟩;rcases Aq.1 mk with e|mk
  .grind
  .obtain⟨g,mg,rfl⟩:=BU.1 mk;rcases(G.mem g).1 mg with m|m
   .grind
   .grind
 have bt:=b5 inn;have e:n+(A++[x]).length=n+A.length+1:=AL;refine⟨a1,a2,a3,b1,b2,by rw[<-b3];exact bt,⟨by rw[e];exact b4 bt,λk=>?_,λv mv=>?_,?_⟩⟩
 .show k∈x::t.1.1↔_;rw[Aq,G.mem,C3,Cn]
  grind
 .rw[e];rcases C3.1 mv with m|m
  .exact(G.out v m).mono A4
  .unfold pce at m;cases hc:(Gu t.1<|Kj x).2
   .grind
   .grind
 .show(t.2++pce t.1 x).length<=_;have:(pce t.1 x).length<=1:=by unfold pce;cases(Gu t.1<|Kj x).2<;>simp
  have:=G.len;rw[E7,E7,JG];omega
theorem eF{v:PS}(P:Hg n v)(ob:∀h∈b,Bs h)(hn:n+b.length<=31):T9 v.2.1 (b.map rh)=some ((pcs v b).map (·.2.1))/\T6 v.2.2 b=some ((pcs v b).map (·.2.2))/\(∀w∈pcs v b,Hg (n+b.length) w)/\(pcs v b).length<=b.length+1:=by
 let⟨r,q,e1,e2,hr⟩:=afa P.1 ob (by have:=P.2;omega);have w:kW v b=r:=by unfold kW;rw[e1];rfl
 rcases hr with⟨r2,q2,_,hi⟩|⟨r2,q2,_⟩
 .have pe:pcs v b=(b.foldl I3 (v,[])).2:=by unfold pcs;rw[w,r2];rfl
  have ml:(b.map rh).length=b.length:=Be _;have G0:GoP n v.1 [] (v,[]):=⟨P,AX,AX,AX⟩;have k1:Yd (λs=>s=(pcs v b).map (·.2.1)) (T9 v.2.1<|b.map rh):=by
   unfold T9;refine A6 e1 ?_;rw[r2,PY,As,ml];refine CB b (λ(s:A3 CQ×A3 (A3 CQ)) i=>(s.1,s.2,i)) (λA s=>GoP n v.1 A (A.foldl I3 (v,[]))/\s.1=(A.foldl I3 (v,[])).1.2.1/\s.2=(A.foldl I3 (v,[])).2.map (·.2.1)) (λA x C s k hA hP next=>?_) (λs k hP=>?_) (s0:=(v.2.1,[])) ⟨G0,rfl,rfl⟩ A4
   .dsimp;rw[CE hA,BI];have al:=Cz hA;let⟨G,s1,s2⟩:=hP;let⟨a1,a2,a3,b1,b2,b3,G'⟩:=oY hA ob hn hi G;have gl:=G.len;have fe:(A++[x]).foldl I3 (v,[])=I3 (A.foldl I3 (v,[])) x:=AL;rw[s1,s2]
    generalize A.foldl I3 (v,[])=t at*
    refine A6 (Kd rh hA)<|A6 (akP<|ob x<|at_mem hA)<|A6 a1 ?_
    refine DI (λu:A3 (A3 CQ)=>u=(I3 t x).2.map (·.2.1)) (λu hu=>A6 b1 (A6 (C7 hA A4) (next (_,_) ⟨by rw[fe];exact G',by rw[fe];rfl,by rw[fe];exact hu⟩))) λk14 Bv=>?_
    have go2:(I3 t x).2=t.2++pce t.1 x:=rfl;cases hc:(Gu t.1<|Kj x).2
    .refine Bv _ ?_;rw[go2];unfold pce;rw[hc];simp
    .refine A6 (app_1 A4 (by rw[Be];omega)) (Bv _ ?_);rw[go2];unfold pce;rw[hc];simp[stp]
   .dsimp;rw[CP,As];exact AU (by rw[pe];exact hP.2.2)
  have k2:Yd (λs=>s=(pcs v b).map (·.2.2)) (T6 v.2.2 b):=by
   unfold T6;refine A6 e2 ?_;rw[q2,PY,As];refine CB b (λ(s:HT×A3 HT) i=>(s.1,s.2,true,i)) (λA s=>GoP n v.1 A (A.foldl I3 (v,[]))/\s.1=(A.foldl I3 (v,[])).1.2.2/\s.2=(A.foldl I3 (v,[])).2.map (·.2.2)) (λA x C s k hA hP next=>?_) (λs k hP=>?_) (s0:=(v.2.2,[])) ⟨G0,rfl,rfl⟩ A4
   .dsimp;rw[CE hA,Lq,BI];have al:=Cz hA;let⟨G,s1,s2⟩:=hP;let⟨a1,a2,a3,b1,b2,b3,G'⟩:=oY hA ob hn hi G;have gl:=G.len;have fe:(A++[x]).foldl I3 (v,[])=I3 (A.foldl I3 (v,[])) x:=AL;rw[s1,s2]
    generalize A.foldl I3 (v,[])=t at*
    refine A6 (Bn hA)<|A6 (amE<|ob x<|at_mem hA)<|A6 a2 ?_
    refine DI (λu:A3 HT=>u=(I3 t x).2.map (·.2.2)) (λu hu=>A6 (Bn hA) (A6 b2 (A6 (C7 hA A4) (by
     have nx:=next ((clR t.1 x).1,u) ⟨by rw[fe];exact G',by rw[fe];rfl,by rw[fe];exact hu⟩
     rw[b3];exact nx)))) λk14 Bv=>?_
    have go2:(I3 t x).2=t.2++pce t.1 x:=rfl;rw[<-a3];cases hc:(Gu t.1<|Kj x).2
    .refine Bv _ ?_;rw[go2];unfold pce;rw[hc];simp
    .refine A6 (app_1 A4 (by rw[Be];omega)) (Bv _ ?_);rw[go2];unfold pce;rw[hc];simp[stp]
   .dsimp;rw[CP,QY,As];exact AU (by rw[pe];exact hP.2.2)
  obtain⟨u,u1,rfl⟩:=k1;obtain⟨z,z1,rfl⟩:=k2;have GE:∀(C A:DH),b=A++C->GoP n v.1 A (A.foldl I3 (v,[]))->GoP n v.1 b (b.foldl I3 (v,[])):=λC=>by
   induction C with
   |nil=>intro A e G;rw[Ig] at e;rw[e];exact G
   |cons x C ih=>intro A e G;refine ih (A++[x]) (by rw[e,HY];rfl) ?_;rw[ZU];exact(oY e ob hn hi G).2.2.2.2.2.2
  have G:=GE b [] rfl G0;exact⟨u1,z1,by rw[pe];exact G.out,by rw[pe];have:=G.len;omega⟩
 .have pe:pcs v b=[v]:=by unfold pcs;rw[w,r2];rfl
  rw[pe];refine⟨?_,?_,λu mu=>?_,AX⟩
  .unfold T9;rw[e1,Ck,r2];rfl
  .unfold T6;rw[e2,Ck,q2];rfl
  .rw[Cn.1 mu];exact P.mono A4
structure Sd(l:A3 DH)(V:A3 PS):Prop where
 eq:l=V.map (·.1)
 ok:∀v∈V,OkB v.1 v.2.1/\v.1.Pairwise HF/\v.1.length<=10
 pr:∀v∈V,Hg 10 v
def Sd.okh{V:A3 PS}(s:Sd l V):∀b∈l,(∀h∈b,Bs h)/\b.length<=10:=λb mb=>by rw[s.eq] at mb;obtain⟨v,mv,rfl⟩:=BU.1 mb;exact⟨(s.ok v mv).1.1,(s.ok v mv).2.2⟩
def Sd.len{V:A3 PS}(s:Sd l V):l.length=V.length:=by rw[s.eq,Be]
theorem ah5{W:A3 (DH×A3 CQ)}(e:l=W.map (·.1))(hW:∀w∈W,OkB w.1 w.2/\NC w.1=some (w.2,0))(hs:∀b∈l,Small b)(hl:l.length<=60):∃V,Sd l V/\NG l=some (V.map (·.2.2))/\W.map (·.2)=V.map (·.2.1):=by
 have key:Yd (λr=>∃V:A3 PS,Sd l V/\r=V.map (·.2.2)/\W.map (·.2)=V.map (·.2.1)) (NG l):=by
  unfold NG;have wl:l.length=W.length:=AL;rw[wl];refine CB W (λ(s:A3 HT) i=>(s,i)) (λA s=>∃V:A3 PS,Sd (A.map (·.1)) V/\s=V.map (·.2.2)/\A.map (·.2)=V.map (·.2.1)) (λA w C s k hA hP next=>?_) (λs k hP=>?_) (s0:=[]) ⟨[],⟨rfl,AX,AX⟩,rfl,rfl⟩ A4
  .dsimp;rw[CE hA,BI];have al:=Cz hA;obtain⟨V,sd,rfl,v2⟩:=hP;have mw:=at_mem hA;let⟨o,c⟩:=hW w mw;have sm:=hs w.1 (by rw[e];exact BU.2 ⟨w,mw,rfl⟩);let⟨_,H9⟩:=agq sm c;have vl:=sd.len;rw[Be] at vl;have ix:AB l (A.length:Int)=some w.1:=by rw[e];exact Kd (·.1) hA
   refine A6 ix (Ap (agK o (by have:=sm.2.1;omega)) λs P=>A6 (app_1 A4 (by rw[Be];omega)) (A6 (C7 hA A4) (next _ ⟨V++[(w.1,w.2,s)],⟨?_,QJ sd.ok ⟨o,H9,sm.2.1⟩,QJ sd.pr ⟨P,sm.2.1⟩⟩,AX,by simp[v2]⟩)));rw[Ge,Ge,sd.eq];rfl
  .dsimp;rw[CP,As];let⟨V,sd,h⟩:=hP;exact AU ⟨V,by rw[e];exact sd,h⟩
 obtain⟨r,e1,V,sd,rfl,e2⟩:=key;exact⟨V,sd,e1,e2⟩
def Io(V:A3 PS)(b:DH):A3 PS:=V.flatMap λv=>pcs v b
def p7{V:A3 PS}(P:∀v∈V,Hg n v)(ob:(∀h∈b,Bs h)/\b.length<=10)(hn:n<=21):(∀v∈Io V b,Hg (n+10) v)/\(Io V b).length<=V.length*11:=by
 constructor
 .intro v mv;let⟨u,mu,m⟩:=MQ.1 mv;exact((eF (P u mu) ob.1 (by have:=ob.2;omega)).2.2.1 v m).mono (by have:=ob.2;omega)
 .exact UH λu mu=>Ct (eF (P u mu) ob.1 (by have:=ob.2;omega)).2.2.2 (by have:=ob.2;omega)
theorem aim{V:A3 PS}(P:∀v∈V,Hg n v)(ob:(∀h∈b,Bs h)/\b.length<=10)(hn:n<=21)(hl:V.length<=10000){R:ρ->Prop}{K:A3 (A3 CQ)->AA ρ}(h:Yd R (K<|(Io V b).map (·.2.1))):Yd R (BH (λk7 (s6:A3 (A3 CQ)×Int)=>cond (decide<|s6.2<((V.map (·.2.1)).length:Int)) (Trn.bd (AB (V.map (·.2.1)) s6.2) λx9=>Trn.bd (VK b) λB5=>Trn.bd (T9 x9 B5) λBm=>Trn.bd (BG 24 s6.1 Bm) λBc=>Trn.bd (AH<|s6.2+1) λBf=>k7 (Bc,Bf)) (K s6.1)) ([],0)):=by
 rw[Be];refine CB V (λ(s:A3 (A3 CQ)) i=>(s,i)) (λA s=>s=(Io A b).map (·.2.1)) (λA v C s k hA hP next=>?_) (λs k hP=>?_) (s0:=[]) rfl A4
 .dsimp;rw[CE hA,BI];have al:=Cz hA;let⟨p1,_,_,p4⟩:=eF (P v<|at_mem hA) ob.1 (by have:=ob.2;omega);have wl:=(p7 (V:=A) (λu mu=>P u (by rw[hA];exact IB _ mu)) ob hn).2;have:=ob.2;refine A6 (Kd (λv:PS=>v.2.1) hA) (A6 (zW ob.1 A4) (A6 p1 (A6 (Ws A4 (by rw[hP,Be,Be];omega))<|A6 (C7 hA A4)<|next _ ?_)));rw[hP];unfold Io;rw[ZW,Ge];simp
 .grind
theorem aih{V:A3 PS}(P:∀v∈V,Hg n v){bl:A3 DH}{i:Int}(ib:AB bl i=some b)(ob:(∀h∈b,Bs h)/\b.length<=10)(hn:n<=21)(hl:V.length<=10000){R:ρ->Prop}{K:A3 HT->AA ρ}(h:Yd R (K<|(Io V b).map (·.2.2))):Yd R (BH (λk7 (s6:A3 HT×Int)=>cond (decide<|s6.2<((V.map (·.2.2)).length:Int)) (Trn.bd (AB (V.map (·.2.2)) s6.2) λx9=>Trn.bd (AB bl i) λB5=>Trn.bd (T6 x9 B5) λBm=>Trn.bd (BG 72 s6.1 Bm) λBc=>Trn.bd (AH<|s6.2+1) λBf=>k7 (Bc,Bf)) (K s6.1)) ([],0)):=by
 rw[Be];refine CB V (λ(s:A3 HT) i=>(s,i)) (λA s=>s=(Io A b).map (·.2.2)) (λA v C s k hA hP next=>?_) (λs k hP=>?_) (s0:=[]) rfl A4
 .dsimp;rw[CE hA,BI];have al:=Cz hA;let⟨_,p1,_,p4⟩:=eF (P v<|at_mem hA) ob.1 (by have:=ob.2;omega);have wl:=(p7 (V:=A) (λu mu=>P u (by rw[hA];exact IB _ mu)) ob hn).2;have:=ob.2;refine A6 (Kd (λv:PS=>v.2.2) hA) (A6 ib (A6 p1 (A6 (Ws A4 (by rw[hP,Be,Be];omega))<|A6 (C7 hA A4)<|next _ ?_)));rw[hP];unfold Io;rw[ZW,Ge];simp
 .grind
def xI{V:A3 PS}(P:∀v∈V,Hg n v)(hn:n<=31)(hl:V.length<=10000):Xt (V.map (·.2.2))=some (V.map (·.2.2.1)):=by
 refine Fz ?_;unfold Xt;rw[Be];refine CB V (λ(s:A3 DH) i=>(s,i)) (λA s=>s=A.map (·.2.2.1)) (λA v C s k hA hP next=>?_) (λs k hP=>?_) (s0:=[]) rfl A4
 .dsimp only;rw[CE hA,BI];have al:=Cz hA;let⟨⟨_,_,_,R⟩,p2⟩:=P v<|at_mem hA
  have rl:=R.len;rw[Be] at rl;exact A6 (Kd (λv:PS=>v.2.2) hA) (A6 (Ws A4 DD) (A6 (app_1 A4 (by rw[hP,Be];omega)) (A6 (C7 hA A4) (next _ (by rw[hP];simp)))))
 .dsimp only;rw[CP,As];exact AU hP
def vh{V:A3 PS}(P:∀v∈V,Hg n v)(hn:n<=31)(hl:V.length<=10000):RG (V.map (·.2.1))=some (bif decide (64<V.length) then([],5) else(V.map (·.2.2.1),0)):=by
 refine Fz ?_;unfold RG;rw[Be];refine CB V (λ(s:A3 DH) i=>(s,i)) (λA s=>s=A.map (·.2.2.1)) (λA v C s k hA hP next=>?_) (λs k hP=>?_) (s0:=[]) rfl A4
 .dsimp only;rw[CE hA,BI];have al:=Cz hA;let⟨p1,p2⟩:=P v<|at_mem hA
  refine A6 (Kd (λv:PS=>v.2.1) hA)<|A6 (ais p1 A4) ?_
  rw[show(!decide ((0:Int)=0))=false from rfl,As];exact A6 (app_1 A4 (by rw[hP,Be];omega)) (A6 (C7 hA A4) (next _ (by rw[hP];simp)))
 .dsimp only;rw[CP,As];have:decide ((64:Int)<(s.length:Int))=decide (64<V.length):=HX.2 (by rw[hP,Be];omega);rw[this,hP];cases decide (64<V.length)<;>exact AU rfl
def ah2(h:∀b∈l,b.length<=1000)(hl:l.length<=1000000):bg l l=some true:=by
 refine Fz ?_;unfold bg;rw[B4 rfl,PY,As];refine CB l (λ(_:Unit) i=>i) (λA _=>True) (λA x C u k hA _ next=>?_) (λu k _=>?_) (s0:=()) trivial A4
 .rw[CE hA,BI];refine A6 (Bn hA) (A6 (Bn hA) (A6 (agD (by have:=h x (at_mem hA);omega)) ?_));rw[PY,As];exact A6 (C7 hA A4)<|next () trivial
 .rw[CP,As];exact AU rfl
def anN(h:∀b∈l,b.length<=32/\∀x∈b,x.2.length<=100)(hl:l.length<=1000000):dm l=some (bif decide (64<l.length) then 5 else 0):=by
 refine Fz ?_;unfold dm;refine CB l (λ(_:Unit) i=>i) (λA _=>True) (λA x C u k hA _ next=>?_) (λu k _=>?_) (s0:=()) trivial A4
 .rw[CE hA,BI];refine A6 (Bn hA) ?_;rw[Bo (show¬(32:Int)<(x.length:Int) by have:=(h x<|at_mem hA).1;omega),As];exact A6 (C7 hA A4)<|next () trivial
 .rw[CP,As];have:decide ((64:Int)<(l.length:Int))=decide (64<l.length):=HX.2 A4;rw[this];cases decide (64<l.length)
  .rw[As,As];refine CB l (λ(_:Unit) i=>i) (λA _=>True) (λA x C u k hA _ next=>?_) (λu k _=>?_) (s0:=()) trivial A4
   .rw[CE hA,BI];have hx:=h x<|at_mem hA
    refine A6 (Bn hA)<|A6 (afU hx.2 A4) ?_
    rw[show(!decide ((0:Int)=0))=false from rfl,As];exact A6 (C7 hA A4)<|next () trivial
   .rw[CP,As];exact AU rfl
  .exact AU rfl
def ajs{x:Rat}(h:bq x 14):(BV x).length<=100:=by have:=nV h A4;omega
def Hg.Gb{v:PS}(P:Hg n v)(hn:n<=31):v.2.2.1.length<=32/\∀h∈v.2.2.1,h.2.length<=100:=by let⟨⟨_,_,_,R⟩,p2⟩:=P;have rl:=R.len;rw[Be] at rl;refine⟨A4,λh mh=>?_⟩;have o:=R.ok h mh;rw[o.txt];exact ajs o.num.2.1
def ajY{V:A3 PS}(P:∀v∈V,Hg n v)(hn:n<=31)(hl:V.length<=10000){x:A3 DH×Int}(hx:RG (V.map (·.2.1))=some x):OA x.1 x.2 0 (V.map (·.2.2.1))=some true:=by
 rw[vh P hn hl] at hx;have hL:∀b∈V.map (·.2.2.1),b.length<=32/\∀x∈b,x.2.length<=100:=λb mb=>by obtain⟨v,mv,rfl⟩:=BU.1 mb;exact(P v mv).Gb hn
 have ft:=anN hL (by rw[Be];omega);rw[Be] at ft;have sm:=ah2 (l:=V.map (·.2.2.1)) (λb mb=>by have:=(hL b mb).1;omega) (by rw[Be];omega);unfold OA jn;dsimp;rw[show decide ((0:Int)=0)=true from rfl,BI,ft,Ck];cases h:decide (64<V.length)<;>rw[h] at hx
 .rw[As] at hx;obtain rfl:=E8 hx;rw[As,show(!decide ((0:Int)=0))=false from rfl,As];rw[sm];rfl
 .rw[BI] at hx;obtain rfl:=E8 hx;rw[BI,show(!decide ((5:Int)=0))=true from rfl,BI];rfl
def ahw{c:Int}(h:c≠0):OA [] c c []=some true:=by unfold OA;show cond (decide<|c=0) _ _=_;rw[Bo h];show cond (!decide (c=0)) _ _=_;rw[Bo h];show some (decide (((0:Nat):Int)=0)&&decide (c=c))=_;rw[B4<|show c=c from rfl];rfl
end
section
variable{a b:List DH}{V U:List PS}(sa:Sd a V)(sb:Sd b U)(la:a.length<=2)(lb:b.length<=2)
include sa sb la lb
theorem ahN:∃C:A3 PS,QB (V.map (·.2.1)) b=some (C.map (·.2.1))/\(NG a=some (V.map (·.2.2))->TF a b=some (C.map (·.2.2.1)))/\(∀w∈C,Hg 30 w)/\C.length<=1000:=by
 have vl:=sa.len;have ob:=sb.okh;have inv:∀(A C:A3 DH),b=A++C->(∀w∈A.foldl Io V,Hg (10+10*A.length) w)/\(A.foldl Io V).length<=2*11^A.length:=λA=>by
  suffices h:∀(n:Nat) (A C:A3 DH),A.length=n->b=A++C->(∀w∈A.foldl Io V,Hg (10+10*A.length) w)/\(A.foldl Io V).length<=2*11^A.length from λC e=>h _ A C rfl e
  intro n
  induction n with
  |zero=>intro A C h e;have:=List.length_eq_zero_iff.1 h;subst this;exact⟨sa.pr,DD⟩
  |succ n ih=>
   intro A C h e;rcases iP A with rfl|⟨B,x,rfl⟩
   .simp at h
   rw[List.concat_eq_append] at h e⊢;have e:b=B++x::C:=by rw[e];simp
   let⟨h1,h2⟩:=ih B _ (by simp at h;exact h) e;have aln:=Cz e;let⟨w1,w2⟩:=p7 h1 (ob x<|at_mem e) A4;rw[ZU,E7,JG];refine⟨λw mw=>(w1 w mw).mono A4,?_⟩;show(Io (B.foldl Io V) x).length<=_;rw[QX];omega
 have lim:∀A C:A3 DH,b=A++C->(A.foldl Io V).length<=242:=λA C e=>by have h:=(inv A C e).2;have:A.length<=2:=AL;have:11^A.length<=11^2:=K8 A4 this;omega
 let⟨P,_⟩:=inv b [] AX;have CL:=lim b [] AX;have P:∀w∈b.foldl Io V,Hg 30 w:=λw mw=>(P w mw).mono A4
 refine⟨b.foldl Io V,?_,λsh=>?_,P,A4⟩
 .have key:Yd (λr=>r=(b.foldl Io V).map (·.2.1)) (QB (V.map (·.2.1)) b):=by
   unfold QB;refine CB b (λ(s:A3 (A3 CQ)) i=>(s,i)) (λA s=>s=(A.foldl Io V).map (·.2.1)) (λA x C s k hA hP next=>?_) (λs k hP=>?_) (s0:=V.map λv:PS=>v.2.1) rfl A4
   .dsimp;rw[CE hA,BI,hP];have aln:=Cz hA;have i1:=(inv A _ hA).1;have l1:=lim A _ hA;refine A6 (Bn hA)<|aim (n:=10+10*A.length) (K:=λt=>Trn.bd (AH<|(A.length:Int)+1) λBq=>k (t,Bq)) i1 (ob x<|at_mem hA) A4 A4 ?_
    exact A6 (C7 hA A4) (next _ (by rw[ZU];rfl))
   .dsimp;rw[CP,As];exact AU hP
  obtain⟨r,e,rfl⟩:=key;exact e
 .have key:Yd (λr=>r=(b.foldl Io V).map (·.2.2.1)) (TF a b):=by
   unfold TF;refine A6 sh ?_;refine CB b (λ(s:A3 HT) i=>(s,i)) (λA s=>s=(A.foldl Io V).map (·.2.2)) (λA x C s k hA hP next=>?_) (λs k hP=>?_) (s0:=V.map λv:PS=>v.2.2) rfl A4
   .dsimp;rw[CE hA,BI,hP];have aln:=Cz hA;have i1:=(inv A _ hA).1;have l1:=lim A _ hA;refine aih (n:=10+10*A.length) (K:=λt=>Trn.bd (AH<|(A.length:Int)+1) λBq=>k (t,Bq)) i1 (Bn hA) (ob x<|at_mem hA) A4 A4 ?_;exact A6 (C7 hA A4) (next _ (by rw[ZU];rfl))
   .dsimp;rw[CP,As,hP];exact A6 (xI P A4 A4)<|AU rfl
  obtain⟨r,e,rfl⟩:=key;exact e
end
section
variable{a b:A3 DH}
def xz{l:A3 DH}(h:64<l.length\/(l.length<=2/\∀x∈l,Small x)):∃X c,Lf l=some (X,c)/\O6 l=some c/\(c=0->l.length<=2/\∃V,Sd l V/\X=V.map (·.2.1)/\NG l=some (V.map (·.2.2))):=by
 rcases h with h|⟨h2,hs⟩
 .refine⟨[],5,?_,?_,λc=>by cases c⟩
  .unfold Lf;rw[B4 (show(64:Int)<(l.length:Int) by omega)];rfl
  .unfold O6;rw[B4 (show(64:Int)<(l.length:Int) by omega)];rfl
 .let⟨v,v1,v2⟩:=mP A4 hs;let⟨w,w1,w2,w3⟩:=aiP A4 hs;have e:v=w.2:=v2.same w2;refine⟨w.1,w.2,w1,by rw[<-e];exact v1,λc=>⟨h2,?_⟩⟩;let⟨W,a,b,d⟩:=w3 c;let⟨V,sd,e1,e2⟩:=ah5 a d hs A4;exact⟨V,sd,by rw[b,e2],e1⟩
theorem abC(c d:Int):VJ [c,d]=some (bif !decide (c=0) then c else d):=by
 obtain⟨F,hF⟩:∃F,18446744073709551616=F+3:=⟨18446744073709551613,rfl⟩;unfold VJ;rw[hF];show cond (!decide (c=0)) (some c) (cond (!decide (d=0)) (some d)<|some 0)=_;cases hc:decide (c=0)
 .rfl
 .grind
def anY{X Y:A3 (A3 CQ)}{c d:Int}(h1:Lf a=some (X,c))(h2:Lf b=some (Y,d)):P8 a b=some (bif !decide (c=0) then([],[],c) else(X,Y,d)):=by unfold P8;rw[h1,h2,Ck,Ck];cases decide (c=0)<;>rfl
theorem aai{e:Int}(h:e≠0){X Y:A3 (A3 CQ)}(hb:P8 a b=some (X,Y,e)):YG a b=some ([],e)/\Xs a b=some ([],e)/\Xr a b=some ([],e)/\TO a b=some (false,e):=by have d:(!decide (e=0))=true:=AL;unfold YG Xs Xr TO;rw[hb,Ck,Ck,Ck,Ck,d];exact⟨rfl,rfl,rfl,rfl⟩
def xU{V U:A3 PS}(sa:Sd a V)(sb:Sd b U)(la:a.length<=2)(lb:b.length<=2)(ra:NG a=some (V.map (·.2.2))):∃M N,QB (V.map (·.2.1)) b=some M/\TF a b=some N/\M.length=N.length:=by let⟨C,c1,c2,_⟩:=ahN sa sb la lb;exact⟨_,_,c1,c2 ra,by rw[Be,Be]⟩
end
end Trn
