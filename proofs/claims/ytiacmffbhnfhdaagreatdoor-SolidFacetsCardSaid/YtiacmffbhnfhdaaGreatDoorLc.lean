/-
  Part of the proof of SolidFacets.
-/
import Derived.Test.YtiacmffbhnfhdaaGreatDoorLb
set_option maxRecDepth 100000
set_option maxHeartbeats 20000000
set_option linter.all false
open Go Go.RowKit Go.Proofs Go.Proofs.Tryz
namespace Trn
section
variable{m d:Nat}{l:A3 C3}{m' d':Nat}{h:C3}{x y:Rat}{a:Q3}
theorem af5{c:Int}(hc:RI h.2=some c):R5 h=some (aM h.1 c):=by
 refine G5 ?_;unfold R5 aM;have z:decide (h.1=((0:Int),(0:Int),(0:Int)))=decide (Hx h.1=0):=Gf.2 (by
  unfold Hx;rw[Nat.gcd_eq_zero_iff,Nat.gcd_eq_zero_iff,QO,QO];simp only[Int.natAbs_eq_zero,and_assoc])
 rw[z];refine Ad (λhz=>by rw[hz];exact AU rfl) λhz=>?_
 rw[hz,B8];refine Cz [h.1.1,h.1.2.1,h.1.2.2] (λ(_:Unit) i=>i) (λA _=>A.any Ek=false) (λA x C s k hA hP next=>?_) (λs k hP=>?_) (s0:=()) rfl AS
 ·have al:=Dt hA;rw[show [h.1.1,h.1.2.1,h.1.2.2].length=3 from rfl] at al;rw[B0 (show(A.length:Int)<3 by omega),Bf];refine A5 (C8 hA) ?_;have fin:∀y,y=x\/decide (x< -999999999)=true->Yd (λr=>r=(bif Ek h.1.1||(Ek h.1.2.1||Ek h.1.2.2) then 3 else bif !decide (Hx h.1=1) then 1 else c)) (cond (decide (x< -999999999)||decide (999999999<y)) (some 3)<|bd (AG<|(A.length:Int)+1) k):=by
   intro y hy;have e:(decide (x< -999999999)||decide (999999999<y))=Ek x:=by
    unfold Ek;rcases hy with rfl|hy
    ·rw[Bool.or_comm]
    ·rw[hy];simp
   rw[e];refine Ad (λhf=>AU ?_) λhf=>A5 (Cb hA AS)<|next () ?_
   ·have:(Ek h.1.1||(Ek h.1.2.1||Ek h.1.2.2))=true:=by
     have:=at_mem hA;simp at this;rcases this with rfl|rfl|rfl<;>rw[hf]<;>simp
    rw[this];rfl
   ·grind
  cases hx:decide (x< -999999999)
  ·rw[hx] at fin;exact A5 (C8 hA)<|fin x<| .inl rfl
  ·rw[hx] at fin;exact fin 0<| .inr rfl
 ·rw[show decide ((([h.1.1,h.1.2.1,h.1.2.2].length:Nat):Int)<3)=false from rfl,B8];simp only[List.any_cons,List.any_nil,gJ,Jr] at hP;obtain⟨p1,p2,p3⟩:=hP;have b1:=PO p1;have b2:=PO p2;have b3:=PO p3;have g0:Hx h.1≠0:=BQ hz;have gl:Nat.gcd h.1.1.natAbs h.1.2.1.natAbs<=999999999:=by
   rcases L2 h.1.1.natAbs with e|e
   ·grind
   ·exact Ca (Nat.gcd_le_left _ e) A4
  refine A5 (wF b1 b2)<|A5 (wF (b:=h.1.2.2) ⟨A4,A4⟩ b3) ?_
  rw[En,p1,p2,p3];have e:decide ((((Nat.gcd (Nat.gcd h.1.1.natAbs h.1.2.1.natAbs) h.1.2.2.natAbs:Nat)):Int)=1)=decide (Hx h.1=1):=Gf.2 (by unfold Hx;omega);rw[e];refine Ad (λh1=>by rw[h1];exact AU rfl) λh1=>by rw[h1];exact A5 hc<|AU rfl
def uP(hi:in3 h.1)(hl:h.2.length<=14):∃c,Oo h=some c/\R5 h=some c/\(c=0->D8 h):=by
 obtain⟨c,c1,c2,c3⟩:=wh hl;refine⟨_,adz hi c1,af5 c2,λe=>?_⟩;unfold aM at e;cases h0:decide (Hx h.1=0) with
 |true=>rw[h0] at e;cases e
 |false=>
  rw[h0,B8] at e;cases hf:Ek h.1.1||(Ek h.1.2.1||Ek h.1.2.2) with
  |true=>rw[hf] at e;cases e
  |false=>
   rw[hf,B8] at e;cases h1:decide (Hx h.1=1) with
   |false=>rw[h1] at e;cases e
   |true=>
    rw[h1] at e;obtain⟨q,hq⟩:=c3 e;rw[Jr,Jr] at hf;refine⟨?_,hf.1,hf.2.1,hf.2.2,An h1⟩;unfold rq;rw[hq.2.2];exact hq
theorem tj(hl:∀h∈l,in3 h.1/\h.2.length<=14)(hn:l.length<=100000000):∃c,XN l=some c/\bO l=some c/\(c=0->∀h∈l,D8 h):=by
 let f:C3->Int:=λh=>(Oo h).getD 0
 have hf:∀h∈l,Oo h=some (f h)/\R5 h=some (f h)/\(f h=0->D8 h):=λh mh=>by
  obtain⟨c,c1,c2,c3⟩:=uP (hl h mh).1 (hl h mh).2;have:f h=c:=AY;rw[this];exact⟨c1,c2,c3⟩
 let g:A3 C3->Int:=λl=>((l.map f).find? λc=> !decide (c=0)).getD 0
 have one:∀(chk:C3->A9 Int),(∀h∈l,chk h=some (f h))->Yd (λr=>r=g l) (B4 (λk2 (s1:Int)=>cond (decide<|s1<(l.length:Int)) (bd (AA l s1) λx4=>bd (chk x4) λx6=>cond (!decide (x6=0)) (some x6)<|bd (AG<|s1+1) λx9=>k2 x9)<|some 0) 0):=by
  intro chk ato;refine Cz l (λ(_:Unit) i=>i) (λA _=>∀h∈A,f h=0) (λA x C s k hA hP next=>?_) (λs k hP=>?_) (s0:=()) AS A4
  ·rw[DD hA,Bf];refine A5 (C8 hA)<|A5 (ato x<|at_mem hA)<|Ad (λhc=>AU ?_) λhc=>A5 (Cb hA A4)<|next () λh mh=>?_
   ·grind
   ·grind
  ·rw[DB,B8];refine AU ?_;show _=((l.map f).find? _).getD 0;rw[List.find?_eq_none.2 (λc mc=>by obtain⟨h,mh,rfl⟩:=Bv.1 mc;rw[hP h mh];simp)];rfl
 obtain⟨r,r1,rfl⟩:=one Oo λh mh=>(hf h mh).1
 obtain⟨r,r2,rfl⟩:=one R5 λh mh=>(hf h mh).2.1
 refine⟨g l,r1,r2,λe h mh=>(hf h mh).2.2 ?_⟩;refine Cl λhne=>?_
 have:((l.map f).find? λc=> !decide (c=0)).getD 0=0:=e;cases hF:(l.map f).find? λc=> !decide (c=0) with
 |none=>exact List.find?_eq_none.1 hF (f h) (Bv.2 ⟨h,mh,rfl⟩) (by simpa using hne)
 |some c=>
  rw[hF] at this;have c0:c=0:=this;have:=List.find?_some hF;rw[c0] at this;cases this
def nd(q:Rat)(m d:Nat):Prop:=q.num.natAbs<=m/\q.den<=d
def NS(hx:nd x m d)(hy:nd y m' d'):nd (x*y) (m*m') (d*d'):=by
 have h:=UD (x:=x.num*y.num) (y:=(x.den:Int)*(y.den:Int))<|Rv (L4 x)<|L4 y
 rw[Yv,JS,JS,En,En] at h;exact⟨Ca h.1<|GB hx.1 hy.1,Ca h.2<|GB hx.2 hy.2⟩
def WX(hx:nd x m d)(hy:nd y m' d'):nd (x+y) (m*d'+m'*d) (d*d'):=by
 have h:=UD (x:=x.num*y.den+y.num*x.den) (y:=(x.den:Int)*(y.den:Int))<|Rv (L4 x)<|L4 y
 rw[Yw,JS,En,En] at h;have t:=qD (x.num*y.den)<|y.num*x.den
 rw[JS,JS,En,En] at t;exact⟨Ca h.1<|Ca t<|Nat.add_le_add (GB hx.1 hy.2)<|GB hy.1 hx.2,Ca h.2<|GB hx.2 hy.2⟩
def qj(hx:nd x m d)(hy:nd y m' d'):nd (x-y) (m*d'+m'*d) (d*d'):=by
 rw[gZ];exact WX hx ⟨by rw[Rat.neg_num,Tm];exact hy.1,by rw[Rat.neg_den];exact hy.2⟩
def aoY(hx:nd x m d)(h0:x≠0):nd x⁻¹ d m:=by
 have hn:x.num≠0:=λe=>h0<|NK.1 e
 have h:=UD (x:=(x.den:Int)) (y:=x.num) hn;rw[pP,En] at h;exact⟨Ca h.1 hx.2,Ca h.2 hx.1⟩
def nd3(p:Q3)(m d:Nat):Prop:=nd p.1 m d/\nd p.2.1 m d/\nd p.2.2 m d
def nm{b:Q3}(ha:nd3 a m d)(hb:nd3 b m' d'):nd3 (Ac a b) (m*m'*(d*d')+m*m'*(d*d')) (d*d'*(d*d')):=
 ⟨qj (NS ha.2.1 hb.2.2)<|NS ha.2.2 hb.2.1,qj (NS ha.2.2 hb.1)<|NS ha.1 hb.2.2,qj (NS ha.1 hb.2.1)<|NS ha.2.1 hb.1⟩
def iT{t:Rat}(ha:nd3 a m d)(ht:nd t m' d'):nd3 (Ba a t) (m*m') (d*d'):=⟨NS ha.1 ht,NS ha.2.1 ht,NS ha.2.2 ht⟩
def zh{b:Q3}(ha:nd3 a m d)(hb:nd3 b m' d'):nd3 (Bw a b) (m*d'+m'*d) (d*d'):=⟨WX ha.1 hb.1,WX ha.2.1 hb.2.1,WX ha.2.2 hb.2.2⟩
def rI{q:Rat}{n:Nat}(h:nd q m d)(hm:Nat.ble m (10^n)=true)(hd:Nat.ble d (10^n)=true):lv n q:=⟨by rw[LZ];exact Ca h.1<|F1 hm,Ca h.2<|F1 hd⟩
def D8.nd{h:C3}(o:D8 h):nd3 (rh h).1 1000000000 1:=by
 have k:∀{x:Int},Ek x=false->Trn.nd (x:Rat) 1000000000 1:=λ{x} hx=>by
  have:=PO hx;exact⟨by rw[PL];omega,by rw[Rw];omega⟩
 exact⟨k o.x,k o.y,k o.z⟩
def Zh(o:∀h∈l,D8 h){p:Q3}(hv:C1 (l.map rh) p):Bu 70 p:=by
 obtain⟨_,a,ma,b,mb,c,mc,hd,rfl⟩:=Vc.1 hv;obtain⟨a,ka,rfl⟩:=Bv.1 ma;obtain⟨b,kb,rfl⟩:=Bv.1 mb;obtain⟨c,kc,rfl⟩:=Bv.1 mc;have d14:∀{h:C3},D8 h->Trn.nd (rh h).2 100000000000000 100000000000000:=λo=>⟨by have:=o.Ix.1;rwa [LZ] at this,o.Ix.2⟩
 have a1:=(o a ka).nd;have b1:=(o b kb).nd;have c1:=(o c kc).nd;have ab:=nm a1 b1;have d:=aoY (WX (WX (NS ab.1 c1.1)<|NS ab.2.1 c1.2.1)<|NS ab.2.2 c1.2.2) hd;have s:=zh (zh (iT (nm b1 c1)<|d14<|o a ka)<|iT (nm c1 a1)<|d14<|o b kb)<|iT ab<|d14<|o c kc
 have r:=iT s d;exact⟨rI r.1 A6 A6,rI r.2.1 A6 A6,rI r.2.2 A6 A6⟩
def qg{x:Int}(h:Ek x=false):qF x=some (x:Rat):=by
 have:=PO h;unfold qF;rw[EZ ⟨A4,A4⟩];rfl
def D8.from(o:D8 h):V2 h=some (rh h):=by
 unfold V2 N9;rw[qg o.x,qg o.y,qg o.z,o.num.2.2];rfl
def am8(o:∀h∈l,D8 h)(hl:l.length<=100000000):Y9 l=some (l.map rh):=by
 refine G5 ?_;unfold Y9;refine Cz l (λ(s:A3 H3) i=>(s,i)) (λA s=>s=A.map rh) (λA x C s k hA hP next=>?_) (λs k hP=>?_) (s0:=[]) rfl A4
 ·dsimp only;rw[DD hA,Bf];have al:=Dt hA;exact A5 (C8 hA) (A5 (o x<|at_mem hA).from (A5 (app_1 A4 (by rw[hP,Bp];omega)) (A5 (Cb hA A4) (next _ (by rw[hP,Mg];rfl)))))
 ·dsimp only;rw[DB,B8];exact AU hP
def Ia(a b:N3):Prop:=a.1<b.1\/a.1=b.1/\(a.2.1<b.2.1\/a.2.1=b.2.1/\a.2.2<b.2.2)
instance(a b:N3):Decidable (Ia a b):=by unfold Ia;exact inferInstance
theorem mU(a b:Int):Un a b=some (bif decide (a<b) then -1 else bif decide (b<a) then 1 else 0):=by
 unfold Un Xi;rw[B0 rfl,B0 rfl];simp only[bd,ZB,B8];cases decide (a<b)
 ·grind
 ·rfl
def xn(a b:N3):∃v,RB a b=some v/\(v<0↔Ia a b):=by
 unfold RB;rw[mU,mU,mU];simp only[bd];rw[or3];refine⟨_,rfl,?_⟩;obtain⟨a1,a2,a3⟩:=a;obtain⟨b1,b2,b3⟩:=b;unfold Ia;simp only;have Lt:∀x y:Int,(x<y/\ ¬y<x/\x≠y)\/(¬x<y/\ ¬y<x/\x=y)\/(¬x<y/\y<x/\x≠y):=λx y=>by omega
 rcases Lt a1 b1 with⟨h1,h2,h3⟩|⟨h1,h2,h3⟩|⟨h1,h2,h3⟩<;>rcases Lt a2 b2 with⟨g1,g2,g3⟩|⟨g1,g2,g3⟩|⟨g1,g2,g3⟩<;>rcases Lt a3 b3 with⟨k1,k2,k3⟩|⟨k1,k2,k3⟩|⟨k1,k2,k3⟩<;>simp[h1,h2,h3,g1,g2,g3,k1,k2,k3]
theorem wH(a b:N3):V6 a b=some (decide<|Ia a b):=by
 refine G5 ?_;unfold V6;refine Cz [(a.1,b.1),(a.2.1,b.2.1),(a.2.2,b.2.2)] (λ(_:Unit) i=>i) (λA _=>∀p∈A,p.1=p.2) (λA x C s k hA hP next=>?_) (λs k hP=>?_) (s0:=()) AS AS
 ·have al:=Dt hA;rw[show [(a.1,b.1),(a.2.1,b.2.1),(a.2.2,b.2.2)].length=3 from rfl] at al;rw[B0 (show(A.length:Int)<3 by omega),Bf];have ix:=C8 hA;have i1:AA [a.1,a.2.1,a.2.2] (A.length:Int)=some x.1:=by
   rw[KW] at ix⊢;have:=congrArg (Option.map (·.1)) ix;rwa [<-Gg] at this
  have i2:AA [b.1,b.2.1,b.2.2] (A.length:Int)=some x.2:=by
   rw[KW] at ix⊢;have:=congrArg (Option.map (·.2)) ix;rwa [<-Gg] at this
  refine A5 i1<|A5 i2<|Ad (λhc=>A5 i1<|A5 i2<|AU<|Gf.2 ?_) λhc=>A5 (Cb hA AS)<|next () λp mp=>?_
  ·have hne:x.1≠x.2:=by simpa using hc
   unfold Ia;rcases A with _|⟨a0,_|⟨a1,_|⟨a2,A⟩⟩⟩
   ·grind
   ·grind
   ·grind
   ·simp at al
  ·grind
 ·rw[show decide ((([(a.1,b.1),(a.2.1,b.2.1),(a.2.2,b.2.2)].length:Nat):Int)<3)=false from rfl,B8];refine AU (Bl ?_).symm;have h0:=hP _ (by simp:(a.1,b.1)∈_);have h1:=hP _ (by simp:(a.2.1,b.2.1)∈_);have h2:=hP _ (by simp:(a.2.2,b.2.2)∈_);dsimp only at h0 h1 h2;unfold Ia;omega
theorem D8.text(o:D8 h):Ut (rh h)=some (h,true):=by
 refine G5 ?_;have one:∀{z:Int},z=1->Cn z=true:=λe=>by rw[e];rfl
 have r1:rh h=(((h.1.1:Rat),(h.1.2.1:Rat),(h.1.2.2:Rat)),(rh h).2):=rfl;have ab:∀{x:Int},Ek x=false->x.natAbs<=999999999:=λhx=>by have:=PO hx;omega
 have jX:∀{x:Rat},lv 14 x->x.num.natAbs<10^600/\x.den<10^600:=λhx=>by
  have:=Mr hx;have p:∀a b:Nat,a<=b->(10:Nat)^a<=10^b:=λa b h=>KN A4 h
  have e:=p (14+1) 600 A4;exact⟨J8 this.1 e,J8 this.2 e⟩
 have norm:Yd (λr=>r=rh h) (Uj<|rh h):=by
  unfold Uj;refine A5 (x:=1) rfl ?_;refine Cz [h.1.1,h.1.2.1,h.1.2.2] (λ(s:Int) i=>(s,i)) (λA s=>s=1) (λA x C s k hA hP next=>?_) (λs k hP=>?_) (s0:=1) rfl AS
  ·have al:=Dt hA;rw[show [h.1.1,h.1.2.1,h.1.2.2].length=3 from rfl] at al;dsimp only;rw[B0 (show(A.length:Int)<3 by omega),Bf];have ix:AA [(rh h).1.1,(rh h).1.2.1,(rh h).1.2.2] (A.length:Int)=some (x:Rat):=by
    have ix:=C8 hA;rw[KW] at ix⊢;have:=congrArg (Option.map (λx:Int=>(x:Rat))) ix;rwa [<-Gg] at this
   subst hP;have dn:(((x:Rat).den:Nat):Int)=1:=by rw[Rw];rfl
   refine A5 ix ?_;rw[dn];exact A5 (x:=1) rfl<|A5 (x:=1) rfl<|A5 (x:=1) rfl<|A5 (Cb hA AS)<|next 1 rfl
  ·dsimp only;rw[show decide ((([h.1.1,h.1.2.1,h.1.2.2].length:Nat):Int)<3)=false from rfl,B8,hP];refine A5 (x:=(1:Rat)) rfl<|A5 (x:=0) rfl ?_
   refine Cz [h.1.1,h.1.2.1,h.1.2.2] (λ(s:Int) i=>(s,i)) (λA s=>s=((A.foldl (λg x=>Nat.gcd g x.natAbs) 0:Nat):Int)) (λA x C s k hA hP next=>?_) (λs k hP=>?_) (s0:=0) rfl AS
   ·have al:=Dt hA;rw[show [h.1.1,h.1.2.1,h.1.2.2].length=3 from rfl] at al;dsimp only;rw[B0 (show(A.length:Int)<3 by omega),Bf];have ix:AA [(rh h).1.1,(rh h).1.2.1,(rh h).1.2.2] (A.length:Int)=some (x:Rat):=by
     have ix:=C8 hA;rw[KW] at ix⊢;have:=congrArg (Option.map (λx:Int=>(x:Rat))) ix;rwa [<-Gg] at this
    have fx:∀y∈[h.1.1,h.1.2.1,h.1.2.2],Ek y=false:=by
     intro y my;simp at my;rcases my with rfl|rfl|rfl
     ·exact o.x
     ·exact o.y
     ·exact o.z
    have hx:=fx x<|at_mem hA
    have gl:A.foldl (λg x=>Nat.gcd g x.natAbs) 0<=999999999:=by
     have:∀(l:A3 Int) (g:Nat),g<=999999999->(∀y∈l,Ek y=false)->l.foldl (λg x=>Nat.gcd g x.natAbs) g<=999999999:=by
      intro l
      induction l with
      |nil=>intro g hg _;exact hg
      |cons y l ih=>
       intro g hg hl;refine ih _ ?_ λz mz=>hl z<|Bq _ mz
       have:=ab<|hl y Dq
       rcases L2 g with e|e
       ·grind
       ·exact Ca (Nat.gcd_le_left _ e) hg
     exact this A 0 A4 λy my=>fx y (by rw[hA];simp[my])
    have q1:GG (x:Rat) 1=some (x:Rat):=by
     have o9:lv 9 (1:Rat):=JQ (d:=1) (.inl rfl) 9;rw[Z4 (iW hx<|BM 9) o9 A4 A4]
     congr 1;show(x:Rat)*1=x;grind
    refine A5 ix (A5 q1 (A5 (x:=(x.natAbs:Int)) (by rw[PL];rfl)<|A5 (x:=((Nat.gcd (A.foldl (λg x=>Nat.gcd g x.natAbs) 0) x.natAbs:Nat):Int)) ?_<|A5 (Cb hA AS)<|next _ ?_))
    ·unfold Oj;rw[hP,fW (by rw[En];omega),fW (by rw[En];have:=ab hx;omega)];rfl
    ·grind
   ·dsimp only;rw[show decide ((([h.1.1,h.1.2.1,h.1.2.2].length:Nat):Int)<3)=false from rfl,B8];have g1:s=1:=by
     rw[hP];show((Nat.gcd (Nat.gcd (Nat.gcd 0 _) _) _:Nat):Int)=_;rw[qC];have:=o.g;unfold Hx at this;rw[this];rfl
    rw[g1];have l1:lv 14 (1:Rat):=JQ (d:=1) (.inl rfl) 14;have e1:Ba (rh h).1 1=(rh h).1:=HM;refine A5 (x:=(1:Rat)) rfl<|A5 (x:=(1:Rat)) ?_<|A5 (nQ (o.lvn (n:=14) A4) l1 A4 A4).1<|A5 (Z4 o.Ix l1 A4 A4)<|AU ?_
    ·rw[(aau l1 l1 A4 A4 (by show(1:Rat)≠0;grind)).1]
     congr 1;grind
    ·grind
 obtain⟨r,n1,rfl⟩:=norm;unfold Ut;refine A5 n1<|A5 (fC (jX o.Ix).1 (jX o.Ix).2) ?_
 rw[<-o.txt];refine Cz [h.1.1,h.1.2.1,h.1.2.2] (λ(s:C3) i=>(((0,0,0),[]),s,i)) (λA s=>s.2=h.2/\(0<A.length->s.1.1=h.1.1)/\(1<A.length->s.1.2.1=h.1.2.1)/\(2<A.length->s.1.2.2=h.1.2.2)) (λA x C s k hA hP next=>?_) (λs k hP=>?_) (s0:=((0,0,0),h.2)) ⟨rfl,AS,AS,AS⟩ AS
 ·have al:=Dt hA;rw[show [h.1.1,h.1.2.1,h.1.2.2].length=3 from rfl] at al;dsimp only;rw[B0 (show(A.length:Int)<3 by omega),Bf];have ix0:=C8 hA;have ix:AA [(rh h).1.1,(rh h).1.2.1,(rh h).1.2.2] (A.length:Int)=some (x:Rat):=by
   have ix:=C8 hA;rw[KW] at ix⊢;have:=congrArg (Option.map (λx:Int=>(x:Rat))) ix;rwa [<-Gg] at this
  have hx:Ek x=false:=by
   have:=at_mem hA;simp at this;rcases this with rfl|rfl|rfl
   ·exact o.x
   ·exact o.y
   ·exact o.z
  have bx:=PO hx;have i6:Hd x=true:=by unfold Hd;rw[B0 A4,B0 A4];rfl
  refine A5 ix<|A5 (x:=(x,true)) ?_ ?_
  ·unfold PZ;rw[PL,Bl A4,i6];rfl
  ·dsimp only;rw[Bl (show¬999999999<x by omega),Bl (show¬x< -999999999 by omega)];simp only[ZB,Bool.or_self,B8];have hm:=hP;rw[ED] at next
   generalize A.length=m at*
   have:m=0\/m=1\/m=2:=A4;rcases this with rfl|rfl|rfl
   ·exact A5 (x:=s.1.1) rfl (A5 (x:=1) rfl (next ((x,s.1.2.1,s.1.2.2),s.2) ⟨hP.1,λ_=>(E5 ix0).symm,λh=>by simp at h,λh=>by simp at h⟩))
   ·exact A5 (x:=s.1.2.1) rfl (A5 (x:=2) rfl (next ((s.1.1,x,s.1.2.2),s.2) ⟨hP.1,λ_=>hP.2.1 A4,λ_=>(E5 ix0).symm,λh=>by simp at h⟩))
   ·exact A5 (x:=s.1.2.2) rfl<|A5 (x:=3) rfl<|next ((s.1.1,s.1.2.1,x),s.2) ⟨hP.1,λ_=>hP.2.1 A4,λ_=>hP.2.2.1 A4,λ_=>(E5 ix0).symm⟩
 ·dsimp only;rw[show decide ((([h.1.1,h.1.2.1,h.1.2.2].length:Nat):Int)<3)=false from rfl,B8];refine A5 (akg (jX o.Ix).1 (jX o.Ix).2)<|AU ?_
  have e:s=h:=Prod.ext (Prod.ext (hP.2.1 AS)<|Prod.ext (hP.2.2.1 AS)<|hP.2.2.2 AS) hP.1;rw[e];rfl
def qY(a:N3): ¬Ia a a:=by unfold Ia;omega
def rC{a b c:N3}:Ia a b->Ia b c->Ia a c:=by unfold Ia;omega
def ana(a b:N3):a=b\/Ia a b\/Ia b a:=by
 obtain⟨a1,a2,a3⟩:=a;obtain⟨b1,b2,b3⟩:=b;unfold Ia;simp only[La];omega
abbrev Jz(a b:C3):Prop:=Ia a.1 b.1
theorem ajE{S:A3 CV}{L:A3 H3}(I:Da S L){f g:CV}(mf:f∈S)(mg:g∈S)(e:f.1.1=g.1.1):f.1=g.1:=by
 have le:∀{f g:CV},f∈S->g∈S->f.1.1=g.1.1->f.1.2<=g.1.2:=λ{f g} mf mg e=>by
  obtain⟨f1,_,f3,f4⟩:=I.Fb f mf;obtain⟨p,mp⟩:=List.exists_mem_of_ne_nil f.2 (λe=>by rw[e] at f3;simp at f3);obtain⟨vp,tp⟩:=(f4 p).1 mp;have:=vp.1 g.1 (I.Fb g mg).1;unfold val at this tp;rw[e] at tp;grind
 exact Prod.ext e<|Rat.le_antisymm (le mf mg e)<|le mg mf e.symm
def SQ(L:A3 H3):Prop:=∃o,∀k∈L,val k o<0
def zk(o:∀h∈l,D8 h)(hl:l.length<=50):
  Yd (λr=>(r.2=13/\ ¬Eg (l.map rh))\/(r.2=12/\Eg (l.map rh)/\ ¬SQ (l.map rh))\/(r.2=0/\Da r.1 (l.map rh))) (YA l):=by
 have few:=D8.few o;have pr:=D8.abT o;have ll:(l.map rh).length=l.length:=Bp _;unfold YA;refine A5 (am8 o A4)<|Az (ahc few A4 A4 A4 pr) λb hb=>?_
 refine Ad (λhc=>AU<| .inl ⟨rfl,λc=>?_⟩) λhc=>?_
 ·rw[hb.2 c] at hc;cases hc
 ·have hB:Eg (l.map rh):=hb.1 (by simpa using hc);refine Az (yx few A4 A4 A4 pr) λr hr=>?_
  rcases hr.XB pr hB with⟨e,h⟩|⟨e,h⟩
  ·rw[e];exact AU<| .inr<| .inr ⟨rfl,h⟩
  ·rw[e];exact AU<| .inr<| .inl ⟨rfl,hB,h⟩
def Asc(l:A3 C3):Prop:=∀A x y C,l=A++x::y::C->Jz x y
def aaG{A:A3 C3}{x y:C3}{C:A3 C3}(e:l=A++x::y::C)(h:Asc (A++[x]))(b:Jz x y):Asc (A++[x]++[y]):=by
 intro A' x' y' C' e';rcases gw C' with rfl|⟨D,z,rfl⟩
 ·have e2:A++[x]++[y]=(A'++[x'])++[y']:=by rw[e'];simp
  obtain⟨e3,e4⟩:=ZG e2 rfl;obtain⟨_,e5⟩:=ZG e3 rfl;cases e4;cases e5;exact b
 ·have e2:A++[x]++[y]=(A'++x'::y'::D)++[z]:=by rw[e'];simp
  obtain⟨e3,_⟩:=ZG e2 rfl;exact h A' x' y' D e3
def wZ(o:∀h∈l,D8 h)(hc:XN l=some 0)(hl:l.length<=32):
  Yd (λr=>(r.2=11/\ ¬Asc l)\/(Asc l/\((r.2=13/\ ¬Eg (l.map rh))\/(r.2=12/\Eg (l.map rh)/\ ¬SQ (l.map rh))\/(Da r.1 (l.map rh)/\r.2=bif decide (r.1.length<l.length) then 1 else 0)))) (KF l):=by
 unfold KF;rw[Bl (show¬32<(l.length:Int) by omega),B8,hc];refine A5 rfl ?_;show Yd _ (lp _ _ 0);refine Cz l (λ(_:Unit) i=>i) (λA _=>Asc A) (λA x C s k hA hP next=>?_) (λs k hP=>?_) (s0:=()) (λA x y C e=>by cases A<;>cases e) A4
 ·rw[DD hA,Bf];obtain rfl|⟨B,y,rfl⟩:A=[]\/∃B y,A=B++[y]:=(gw A).imp id λ⟨B,y,h⟩=>⟨B,y,by rw[h,qH]⟩
  ·exact A5 (Cb hA A4) (next () λA' x' y' C' e=>by
    have:=congrArg List.length e;simp at this;omega)
  ·have i1:AA l (B.length:Int)=some y:=by rw[KW,hA];simp
   have i2:=C8 hA;have al:=Dt hA;have f:=Cb hA A4;obtain⟨v,v1,v2⟩:=xn y.1 x.1;have en:(B++[y]).length=B.length+1:=AS;have nx:=next ()
   have Ib:=aaG (l:=l) (A:=B) (x:=y) (y:=x) (C:=C) (by rw[hA];simp) hP
   generalize (B++[y]).length=m at*
   subst en;have hpos:decide ((0:Int)<((B.length+1:Nat):Int))=true:=B0 A4;rw[hpos,show gd true true=true from rfl,CU rfl];refine A5 (x:=(B.length:Int)) (by rw[EZ ⟨A4,A4⟩];exact congrArg some A4) ?_;rw[CU rfl];refine A5 i1 ?_;rw[CU rfl];refine A5 i2 ?_;rw[CU rfl];refine A5 v1 ?_;rw[KL];refine Ad (λhv=>AU<| .inl ⟨rfl,λc=>?_⟩) λhv=>?_
   ·have:=v2.2 (c B y x C (by rw[hA];simp));have:=An hv;omega
   ·have:=BQ hv;exact A5 f<|nx<|Ib<|v2.1 A4
 ·rw[DB,B8];refine Az (zk o A4) λr hr=>?_
  rcases hr with⟨e,h⟩|⟨e,h1,h2⟩|⟨e,h⟩
  ·rw[e];exact AU<| .inr ⟨hP,.inl ⟨rfl,h⟩⟩
  ·rw[e];exact AU<| .inr ⟨hP,.inr<| .inl ⟨rfl,h1,h2⟩⟩
  ·rw[e];have hd:decide ((r.1.length:Int)<(l.length:Int))=decide (r.1.length<l.length):=Gf.2 A4;rw[hd];show Yd _ (cond (decide<|r.1.length<l.length) (some (r.1,1))<|some (r.1,0));cases hq:decide (r.1.length<l.length)
   ·exact AU (.inr ⟨hP,.inr (.inr ⟨h,by dsimp only;rw[hq];rfl⟩)⟩)
   ·exact AU (.inr ⟨hP,.inr (.inr ⟨h,by dsimp only;rw[hq];rfl⟩)⟩)
def aib{n:Int}(h: -999999999<=n/\n<=999999999):Yd (λp=>FB p n/\p.2.length<=1) (RF n):=by
 obtain⟨F,hF⟩:∃F,18446744073709551616=F+2:=⟨18446744073709551614,rfl⟩;unfold RF;rw[hF];show Yd _ (cond (!decide (n=0)) _ _);refine Ad (λhc=>?_) λhc=>?_
 ·have h0:n≠0:=by simpa using hc
  have rm:n.tmod 1000000000=n:=by
   rcases Int.le_total 0 n with g|g
   ·exact Int.tmod_eq_of_lt g A4
   ·have h2:=Int.tmod_eq_of_lt (a:= -n) (b:=1000000000) A4 A4;rw[Int.neg_tmod] at h2;omega
  have dv:n.tdiv 1000000000=0:=by
   have:=Int.mul_tdiv_add_tmod n 1000000000;rw[rm] at this;omega
  refine A5 (x:=n) (by show some (n.tmod 1000000000)=_;rw[rm]) ?_;refine Du (λd=>d=(n.natAbs:Int)) ?_ λk7 h7=>Ad (λhc=>A5 BC (h7 _ (by have:=An hc;omega))) λhc=>h7 _ (by have:=BQ hc;omega)
  rintro d rfl;refine A5 (x:=[(n.natAbs:Int)]) (aaM AS) (A5 (x:=0) (by show AG (n.tdiv 1000000000)=_;rw[dv];rfl) ?_);show Yd _ (bd (Km (decide<|n<0) [(n.natAbs:Int)]) _);refine Az (Q1 (z:=n) (λx mx=>?_) AS ?_) λp hp=>AU hp
  ·rw[DV.1 mx];exact⟨A4,by show _<(1000000000:Int);omega⟩
  ·have e:AI [(n.natAbs:Int)]=(n.natAbs:Int):=by show(n.natAbs:Int)+1000000000*0=_;omega
   rw[e];cases hn:decide (n<0)
   ·have:=BQ hn;simp only[B8];omega
   ·have:=An hn;simp only[Bf];omega
 ·have h0:n=0:=by simpa using hc
  subst h0;exact Az (Q1 (z:=0) (λx mx=>by cases mx) AS rfl) λp hp=>AU ⟨hp.1,Ca hp.2 AS⟩
theorem xB(n:Int):BL (n:Rat)=Bo n:=by(simp_all [BL,Bo]<;>grind)
def mJ{n:Int}(h:Ek n=false):Uw n=some (BL (n:Rat)):=by
 obtain⟨p,e,h1,h2⟩:=aib<|PO h
 unfold Uw;rw[e,D4,oO h1 A4,xB];rfl
end
section
variable{h:C3}(o:D8 h)
include o
theorem Ri:O0 h=some (Ap (rh h).1):=by
 unfold O0 Oz;rw[mJ o.x,D4,mJ o.y,D4,mJ o.z];rfl
theorem anP{p:Q3}{n:Nat}(hp:Bu n p)(hn:n<=5000):Y0 h (Ap p)=some (BL<|val (rh h) p)/\lv (3*n+44) (val (rh h) p):=by
 have l:=o.lvn (n:=9) A4;have d:=WZ l hp;refine⟨?_,Fi (lvs d o.Ix) A4⟩;unfold Y0;rw[Ri o,D4,aJ l hp A4,D4];have e:=UP d o.Ix A4 A4;rw[<-o.txt] at e;rw[e];rfl
theorem qw{p:Q3}{n:Nat}(hp:Bu n p)(hn:n<=5000):VH h (Ap p)=some (val (rh h) p).num.sign:=by
 obtain⟨e,l⟩:=anP o hp hn;unfold VH;rw[e,D4,Wb l A4];rfl
end
section
variable{l:A3 C3}{p:Q3}{n:Nat}{α:Type}{A:A3 α}{x:α}{M:A3 H3}{C:A3 Q3}{S:A3 CV}
def anQ{x:Rat}(hx:lv n x)(h0:x≠0)(hn:n<=18000):XQ (BL x)=some (BL x⁻¹):=by
 have o:lv 1 (1:Rat):=JQ (d:=1) (.inl rfl) 1;refine G5 ?_;unfold XQ;refine Az (TV (Mr hx) A4 A4) ?_;rintro⟨q1,q2⟩ ⟨⟨b1,b2⟩,b3,b4⟩;dsimp only at*;have hf:=mB b2 b1 (λe=>h0<|NK.1 e) A4 A4;rw[pP] at hf;exact A5 hf<|AU rfl
def yq{x:Rat}(hx:lv n x)(hn:n<=18000):V7 (BL x)=some (decide<|x=0):=by
 unfold V7;rw[YS x<|Qb hx hn]
theorem qU(a b c:Q3):AK a (Ac b c)=Ed a b c:=by unfold Ed AK Ac;grind
def ahN{a b c:C3}(oa:D8 a)(ob:D8 b)(oc:D8 c):
  bh a b c=some (bif decide (Ed (rh a).1 (rh b).1 (rh c).1=0) then(([],[],[]),false) else(Ap<|Im (rh a) (rh b)<|rh c,true)):=by
 have la:=oa.lvn (n:=9) A4;have lb:=ob.lvn (n:=9) A4;have lc:=oc.lvn (n:=9) A4;have bc':=MZ lb lc;have ca':=MZ lc la;have ab':=MZ la lb;have ld:=WZ la bc';unfold bh mP;rw[Ri oa,D4,Ri ob,D4,Ri oc,D4,S4 lb lc A4,D4,aJ la bc' A4,D4,D4,yq ld A4,D4,qU];rw[qU] at ld;cases hd:decide (Ed (rh a).1 (rh b).1 (rh c).1=0)
 ·have s1:=WN bc' oa.Ix A4;have s2:=WN ca' ob.Ix A4;have s3:=WN ab' oc.Ix A4;rw[<-oa.txt] at s1;rw[<-ob.txt] at s2;rw[<-oc.txt] at s3;have t1:=S9 bc' oa.Ix;have t2:=S9 ca' ob.Ix;have t3:=S9 ab' oc.Ix;have t4:=Vt t1 t2;have t5:=Vt t4 t3;have h0:=BQ hd;simp only[B8];rw[D4,s1,D4,S4 lc la A4,D4,s2,D4,qx t1 t2 A4,D4,S4 la lb A4,D4,s3,D4,qx t4 t3 A4,D4,anQ ld h0 A4,D4,WN t5 (lvi ld h0) A4]
  rfl
 ·rfl
def amW{a b c:C3}(oa:D8 a)(ob:D8 b)(oc:D8 c)(h0:Ed (rh a).1 (rh b).1 (rh c).1≠0):Bu 500 (Im (rh a) (rh b)<|rh c):=by
 have la:=oa.lvn (n:=9) A4;have lb:=ob.lvn (n:=9) A4;have lc:=oc.lvn (n:=9) A4;have ld:=WZ la<|MZ lb lc
 rw[qU] at ld;exact M5 (S9 (Vt (Vt (S9 (MZ lb lc) oa.Ix)<|S9 (MZ lc la) ob.Ix)<|S9 (MZ la lb) oc.Ix)<|lvi ld h0) A4
def yd(o:∀h∈l,D8 h)(hl:l.length<=100000000){d:Q3}(hd:Bu n d)(hn:n<=5000):Yd (λb=>b=true↔∃h∈l,0<AK (rh h).1 d) (VD l<|Ap d):=by
 unfold VD;refine Cz l (λ(_:Unit) i=>i) (λA _=>∀h∈A,¬0<AK (rh h).1 d) (λA x C s k hA hP next=>?_) (λs k hP=>?_) (s0:=()) AS A4
 ·rw[DD hA,Bf];have ox:=o x<|at_mem hA
  have l9:=ox.lvn (n:=9) A4;refine A5 (C8 hA)<|A5 (Ri ox)<|A5 (aJ l9 hd A4)<|A5 (Wb (WZ l9 hd) A4) ?_
  rw[fI];refine Ad (λhc=>AU ⟨λ_=>⟨x,at_mem hA,An hc⟩,λ_=>rfl⟩) λhc=>A5 (Cb hA A4)<|next () λh mh=>?_
  rcases Cp.1 mh with m|m
  ·exact hP h m
  ·rw[DV.1 m];exact BQ hc
 ·rw[DB,B8];exact AU ⟨λc=>(by cases c),λ⟨h,mh,c⟩=>absurd c<|hP h mh⟩
def ans:BL (-1)=[45,49]:=A6
def aqY(u v:Q3):Ba (Ac u v) (-1)=Ac v u:=(VU u v).symm
def afW(o:∀h∈l,D8 h)(hl:l.length<=50):Yd (λb=>b=true↔Eg (l.map rh)) (bU l):=by
 have bi:Eg (l.map rh)↔(∃f∈l,∃g∈l,Ac (rh f).1 (rh g).1≠o3)/\∀f∈l,∀g∈l,Ac (rh f).1 (rh g).1≠o3->∃h∈l,0<AK (rh h).1 (Ac (rh f).1 (rh g).1):=by
  rw[anb];have mm:∀{h:C3},h∈l->rh h∈l.map rh:=λmh=>Bv.2 ⟨_,mh,rfl⟩
  constructor
  ·rintro⟨⟨f,mf,g,mg,c⟩,h⟩;obtain⟨a,ma,rfl⟩:=Bv.1 mf;obtain⟨b,mb,rfl⟩:=Bv.1 mg;refine⟨⟨a,ma,b,mb,c⟩,λx mx y my c=>?_⟩;obtain⟨k,mk,c⟩:=h _ (mm mx) _ (mm my) c;obtain⟨z,mz,rfl⟩:=Bv.1 mk;exact⟨z,mz,c⟩
  ·rintro⟨⟨f,mf,g,mg,c⟩,h⟩;refine⟨⟨_,mm mf,_,mm mg,c⟩,λx mx y my c=>?_⟩;obtain⟨a,ma,rfl⟩:=Bv.1 mx;obtain⟨b,mb,rfl⟩:=Bv.1 my;obtain⟨z,mz,c⟩:=h a ma b mb c;exact⟨_,mm mz,c⟩
 rw[show(λb:Bool=>b=true↔Eg (l.map rh))=λb:Bool=>b=true↔(∃f∈l,∃g∈l,Ac (rh f).1 (rh g).1≠o3)/\∀f∈l,∀g∈l,Ac (rh f).1 (rh g).1≠o3->∃h∈l,0<AK (rh h).1 (Ac (rh f).1 (rh g).1) from funext λb=>propext (by rw[bi])];unfold bU;refine Cz l (λ(s:Bool) i=>(s,i)) (λA s=>(s=true↔∃f∈A,∃g∈A,Ac (rh f).1 (rh g).1≠o3)/\∀f∈A,∀g∈A,Ac (rh f).1 (rh g).1≠o3->∃h∈l,0<AK (rh h).1 (Ac (rh f).1 (rh g).1)) (λA x C s k hA hP next=>?_) (λs k hP=>?_) (s0:=false) AS A4
 ·dsimp only;rw[DD hA,Bf];have al:=Dt hA;have mx:=at_mem hA;have mA:∀y∈A,y∈l:=λy my=>by rw[hA];exact Mn _ my
  refine Cz A (λ(t:Bool) i=>(t,i)) (λB t=>(t=true↔(∃f∈A,∃g∈A,Ac (rh f).1 (rh g).1≠o3)\/∃g∈B,Ac (rh x).1 (rh g).1≠o3)/\∀g∈B,Ac (rh x).1 (rh g).1≠o3->(∃h∈l,0<AK (rh h).1 (Ac (rh x).1 (rh g).1))/\∃h∈l,0<AK (rh h).1 (Ac (rh g).1 (rh x).1)) (λB y D t k2 hB hQ HG=>?_) (λt k2 hQ=>?_) (s0:=s) (by simpa using hP.1) A4
  ·dsimp only;rw[DD hB,Bf];have my:=mA y<|at_mem hB
   have hB':l=B++y::(D++x::C):=by rw[hA,hB];simp
   refine Du (λt:Bool=>(t=true↔(∃f∈A,∃g∈A,Ac (rh f).1 (rh g).1≠o3)\/∃g∈B++[y],Ac (rh x).1 (rh g).1≠o3)/\∀g∈B++[y],Ac (rh x).1 (rh g).1≠o3->(∃h∈l,0<AK (rh h).1 (Ac (rh x).1 (rh g).1))/\∃h∈l,0<AK (rh h).1 (Ac (rh g).1 (rh x).1)) (λt ht=>A5 (Cb hB A4)<|HG t ht) λk8 h8=>?_
   have lx:=(o x mx).lvn (n:=9) A4;have ly:=(o y my).lvn (n:=9) A4;have lc:=MZ lx ly;refine A5 (C8 hA)<|A5 (Ri<|o x mx)<|A5 (C8 hB')<|A5 (Ri<|o y my)<|A5 (S4 lx ly A4)<|A5 (qu lc A4) ?_
   have sp:∀{P:C3->Prop},(∀g∈B++[y],P g)↔(∀g∈B,P g)/\P y:=λ{P}=>by simp[or_imp,forall_and]
   have ex:∀{P:C3->Prop},(∃g∈B++[y],P g)↔(∃g∈B,P g)\/P y:=λ{P}=>by simp[Z8,exists_or]
   rw[sp] at h8;rw[ex] at h8;refine Ad (λhc=>h8 _ ?_) λhc=>?_
   ·have:=An hc;exact⟨by rw[hQ.1];simp[this],hQ.2,λc=>absurd this c⟩
   ·have h0:=BQ hc;refine Az (yd o A4 lc A4) λb hb=>?_
    cases b with
    |false=>
     show Yd _ (some false);refine AU ⟨λc=>(by cases c),λc=>?_⟩;have:=hb.2<|c.2 x mx y my h0
     cases this
    |true=>
     show Yd _ (bd (O3 [45,49]<|Ap<|Ac (rh x).1 (rh y).1) _);have l1:lv 1 (-1:Rat):=JQ (d:= -1) (.inr rfl) 1;have sc:=WN lc l1 A4;rw[ans,aqY] at sc;refine A5 sc ?_;show Yd _ (bd (VD l _) _);refine Az (yd o A4 (MZ ly lx) A4) λb' BD=>?_
     cases b' with
     |false=>
      refine AU ⟨λc=>(by cases c),λc=>?_⟩;have:=BD.2 (c.2 y my x mx λe=>h0 (by rw[VU,e,ry]));cases this
     |true=>
      refine h8 true ⟨⟨λ_=> .inr<| .inr h0,λ_=>rfl⟩,hQ.2,λ_=>⟨hb.1 rfl,BD.1 rfl⟩⟩
  ·dsimp only;rw[DB,B8];refine A5 (Cb hA A4)<|next t ⟨?_,?_⟩
   ·rw[hQ.1];constructor
    ·rintro(⟨f,mf,g,mg,c⟩|⟨g,mg,c⟩)
     ·exact⟨f,by simp[mf],g,by simp[mg],c⟩
     ·exact⟨x,AS,g,by simp[mg],c⟩
    ·rintro⟨f,mf,g,mg,c⟩;rcases Cp.1 mf with mf|mf<;>rcases Cp.1 mg with mg|mg
     ·exact .inl ⟨f,mf,g,mg,c⟩
     ·rw[DV.1 mg] at c;exact .inr ⟨f,mf,λe=>c (by rw[VU,e,ry])⟩
     ·rw[DV.1 mf] at c;exact .inr ⟨g,mg,c⟩
     ·rw[DV.1 mf,DV.1 mg] at c;exact absurd U8 c
   ·intro f mf g mg c;rcases Cp.1 mf with mf|mf<;>rcases Cp.1 mg with mg|mg
    ·exact hP.2 f mf g mg c
    ·rw[DV.1 mg] at c⊢;exact(hQ.2 f mf λe=>c (by rw[VU,e,ry])).2
    ·rw[DV.1 mf] at c⊢;exact(hQ.2 g mg c).1
    ·rw[DV.1 mf,DV.1 mg] at c;exact absurd U8 c
 ·dsimp only;rw[DB,B8];exact AU ⟨λc=>⟨hP.1.1 c,hP.2⟩,λc=>hP.1.2 c.1⟩
structure Srt(l r:A3 C3):Prop where
 Ib:r.Pairwise Jz
 sub:∀h∈r,h∈l
 le:∀h∈l,∃k∈r,k.1=h.1/\rq k.2<=rq h.2
def Srt.least{r:A3 C3}(s:Srt l r):NZ (l.map rh) (r.map rh):=by
 refine⟨λg mg=>?_,λg mg=>?_⟩
 ·obtain⟨h,mh,rfl⟩:=Bv.1 mg;exact Bv.2 ⟨h,s.sub h mh,rfl⟩
 ·obtain⟨h,mh,rfl⟩:=Bv.1 mg;obtain⟨k,mk,e,c⟩:=s.le h mh;exact⟨rh k,Bv.2 ⟨k,mk,rfl⟩,by show rn k.1=rn h.1;rw[e],c⟩
theorem aiC(o:∀h∈l,D8 h)(hl:l.length<=50):Yd (λr=>Srt l r/\r.length<=l.length) (c7 l):=by
 unfold c7;refine Cz l (λ(s:A3 C3) i=>(s,i)) (λA s=>Srt A s/\s.length<=A.length) (λA x C s k hA hP next=>?_) (λs k hP=>?_) (s0:=[]) ⟨⟨List.Pairwise.nil,AS,AS⟩,AS⟩ A4
 ·dsimp only;rw[DD hA,Bf];have al:=Dt hA;have mx:=at_mem hA;have ox:=o x mx;obtain⟨S,sl⟩:=hP;have os:∀h∈s,D8 h:=λh mh=>o h (by rw[hA];exact Mn _<|S.sub h mh)
  refine Du (λs'=>Srt (A++[x]) s'/\s'.length<=(A++[x]).length) (λs' h'=>A5 (Cb hA A4)<|next s' h') λk5 h5=>?_
  have put:∀B D:A3 C3,s=B++D->(∀h∈B,Jz h x)->(∀h∈D,Jz x h)->Srt (A++[x]) ((B++[x])++D)/\((B++[x])++D).length<=(A++[x]).length:=λB D e hb hd=>by
   have sa:=S.Ib;rw[e] at sa;obtain⟨a1,a2,a3⟩:=ME.1 sa;refine⟨⟨ME.2 ⟨ME.2 ⟨a1,ZU _ _,λh mh y my=>by rw[DV.1 my];exact hb h mh⟩,a2,λh mh y my=>?_⟩,λh mh=>?_,λh mh=>?_⟩,?_⟩
   ·rcases Cp.1 mh with m|m
    ·exact a3 h m y my
    ·rw[DV.1 m];exact hd y my
   ·have:h∈s\/h=x:=by rw[e];simp at mh⊢;rcases mh with m|m|m<;>simp[m]
    rcases this with m|m
    ·exact Mn _<|S.sub h m
    ·rw[m];simp
   ·rcases Cp.1 mh with m|m
    ·obtain⟨k,mk,c⟩:=S.le h m;rw[e] at mk;exact⟨k,by simp at mk⊢;rcases mk with m|m<;>simp[m],c⟩
    ·rw[DV.1 m];exact⟨x,AS,rfl,Gx⟩
   ·rw[e] at sl;simp at sl⊢;omega
  refine Cz s (λ(_:Unit) i=>i) (λB _=>∀h∈B,Jz h x) (λB h D t k7 hB hQ HG=>?_) (λt k7 hQ=>?_) (s0:=()) AS A4
  ·have hg:gd (decide<|(B.length:Int)<(s.length:Int)) true=true:=by rw[DD hB];rfl
   have bl:=Dt hB;have mh:=at_mem hB;rw[CU hg];refine A5 (C8 hB) ?_;rw[CU hg];refine A5 (C8 hB) ?_;rw[CU hg];refine A5 (C8 hA) ?_;rw[CU hg];refine A5 (wH h.1 x.1) ?_;rw[DD hB,KL];refine Ad (λhc=>A5 (Cb hB A4)<|HG () λg mg=>?_) λhc=>?_
   ·rcases Cp.1 mg with m|m
    ·exact hQ g m
    ·rw[DV.1 m];exact An hc
   ·have LI:=BQ hc;rw[DD hB] at hg;rw[CU hg];refine A5 (C8 hB) ?_;rw[CU hg];refine A5 (C8 hB) ?_;rw[CU hg];refine A5 (C8 hA) ?_;rw[KL];refine Ad (λhe=>?_) λhe=>?_
    ·have he:=An he;have lx:=ox.Ix;have lh:=(os h mh).Ix;have cmp:TE x.2 h.2=some ((rh x).2-(rh h).2).num.sign:=by
      have e:=UP lx lh A4 A4;rw[<-ox.txt,<-(os h mh).txt] at e;unfold TE;rw[e,D4,Wb (lvs lx lh) A4];rfl
     refine A5 (C8 hA)<|A5 (C8 hB)<|A5 (C8 hB)<|A5 cmp ?_
     rw[sign_neg];refine Du (λs'=>Srt (A++[x]) s'/\s'.length<=(A++[x]).length) (λs' h'=>h5 s' h') λk35 Hk=>Ad (λhc=>?_) λhc=>?_
     ·refine A5 (C8 hA) (A5 (C8 hB)<|A5 (C8 hB) ?_);have hx:(h.1,x.2)=x:=by rw[he]
      have st:s.set ((B.length:Int)).toNat (h.1,x.2)=B++x::D:=by rw[hx,Ch,hB];simp
      rw[st];have hlt:rq x.2<rq h.2:=by have h9:=An hc;change rq x.2-rq h.2<0 at h9;grind
      have sa:=S.Ib;rw[hB] at sa;obtain⟨a1,a2,a3⟩:=ME.1 sa;obtain⟨a4,a5⟩:=HE.1 a2;refine Hk _ ⟨⟨ME.2 ⟨a1,HE.2 ⟨λy my=>?_,a5⟩,λy my z mz=>?_⟩,λy my=>?_,λy my=>?_⟩,?_⟩
      ·show Ia x.1 y.1;rw[<-he];exact a4 y my
      ·rcases Ai.1 mz with e|m
       ·rw[e];show Ia y.1 x.1;rw[<-he];exact a3 y my h AS
       ·exact a3 y my z<|Bq _ m
      ·have:y∈s\/y=x:=by rw[hB];simp at my⊢;rcases my with m|m|m<;>simp[m]
       rcases this with m|m
       ·exact Mn _<|S.sub y m
       ·rw[m];simp
      ·rcases Cp.1 my with m|m
       ·obtain⟨g,mg,c1,c2⟩:=S.le y m;rw[hB] at mg;rcases Cp.1 mg with mg|mg
        ·exact⟨g,by simp[mg],c1,c2⟩
        ·rcases Ai.1 mg with e|mg
         ·rw[e] at c1 c2;exact⟨x,AS,by rw[<-c1,he],Z9 (Ge hlt) c2⟩
         ·exact⟨g,by simp[mg],c1,c2⟩
       ·rw[DV.1 m];exact⟨x,AS,rfl,Gx⟩
      ·rw[hB] at sl;simp at sl⊢;omega
     ·have Kh:rq h.2<=rq x.2:=by have h9:=BQ hc;change¬rq x.2-rq h.2<0 at h9;grind
      refine Hk _ ⟨⟨S.Ib,λy my=>Mn _<|S.sub y my,λy my=>?_⟩,E8⟩;rcases Cp.1 my with m|m
      ·exact S.le y m
      ·rw[DV.1 m];exact⟨h,mh,he,Kh⟩
    ·have hne:=BQ he;have hxh:Jz x h:=((ana h.1 x.1).resolve_left hne).resolve_left LI;have s1:C2 s 0 (B.length:Int)=some B:=by
      rw[EW A4 A4 A4,hB];simp
     have s2:C2 s (B.length:Int) (s.length:Int)=some (h::D):=by
      rw[EW A4 A4 A4];simp;rw[hB];simp
     have a0:∀(u v:A3 C3),u.length+v.length<=100->BH 40 u v=some (u++v):=λu v huv=>by
      unfold BH;rw[B0 (show(u.length+v.length)*40<=140737488355328 by omega),B0 (show u.length+v.length<=9223372036854775807 by omega)];rfl
     have dl:s.length=B.length+(D.length+1):=by rw[hB];simp
     refine A5 s1<|A5 (a0 [] B E8)<|A5 (C8 hA)<|A5 (a0 _ _ E8)<|A5 s2<|A5 (a0 _ _ E8)<|h5 _ ?_
     rw[Ii];refine put B (h::D) hB hQ λy my=>?_
     rcases Ai.1 my with e|m
     ·rw[e];exact hxh
     ·have sa:=S.Ib;rw[hB] at sa;exact rC hxh<|(HE.1 (ME.1 sa).2.1).1 y m
  ·have hg:gd (decide<|(s.length:Int)<(s.length:Int)) true=false:=by rw[DB];rfl
   rw[EP hg,EP hg,EP hg,EP hg];rw[DB,Tn,B8];rw[DB] at hg;rw[EP hg,EP hg,EP hg,Tn,B8];have s1:C2 s 0 (s.length:Int)=some s:=by rw[EW A4 A4 A4];simp
   have s2:C2 s (s.length:Int) (s.length:Int)=some []:=by rw[EW A4 A4 A4];simp
   have a0:∀(u v:A3 C3),u.length+v.length<=100->BH 40 u v=some (u++v):=λu v huv=>by
    unfold BH;rw[B0 (show(u.length+v.length)*40<=140737488355328 by omega),B0 (show u.length+v.length<=9223372036854775807 by omega)];rfl
   refine A5 s1<|A5 (a0 [] s E8)<|A5 (C8 hA)<|A5 (a0 _ _ E8)<|A5 s2<|A5 (a0 _ _ E8)<|h5 _ ?_
   rw[Ii];exact put s [] AS hQ AS
 ·dsimp only;rw[DB,B8];exact AU hP
theorem agi(o:∀h∈l,D8 h)(hl:l.length<=100000000)(hp:Bu n p)(hn:n<=5000):Yd (λb=>b=true↔Mem (l.map rh) p) (bb l<|Ap p):=by
 have mm:∀{h:C3},h∈l->rh h∈l.map rh:=λmh=>Bv.2 ⟨_,mh,rfl⟩
 unfold bb;refine Cz l (λ(_:Unit) i=>i) (λA _=>∀h∈A,val (rh h) p<=0) (λA x C s k hA hP next=>?_) (λs k hP=>?_) (s0:=()) AS A4
 ·rw[DD hA,Bf];refine A5 (C8 hA)<|A5 (qw (o x<|at_mem hA) hp hn) ?_
  rw[fI];refine Ad (λhc=>AU ⟨λc=>(by cases c),λc=>?_⟩) λhc=>A5 (Cb hA A4)<|next () λh mh=>?_
  ·have:=c _ (mm<|at_mem hA);have:=An hc
   grind
  ·grind
 ·rw[DB,B8];refine AU ⟨λ_ g mg=>?_,λ_=>rfl⟩;obtain⟨h,mh,rfl⟩:=Bv.1 mg;exact hP h mh
theorem age(hl:C.length<=100000000)(hC:∀q∈C,Bu n q)(hp:Bu n p)(hn:n<=5000):Ur (C.map Ap) (Ap p)=some (decide<|p∈C):=by
 have key:Yd (λb=>b=decide (p∈C)) (Ur (C.map Ap)<|Ap p):=by
  unfold Ur;refine Cz (C.map Ap) (λ(_:Unit) i=>i) (λA _=>Ap p∉A) (λA x D s k hA hP next=>?_) (λs k hP=>?_) (s0:=()) AS E8
  ·rw[DD hA,Bf];refine A5 (C8 hA)<|Ad (λhc=>AU (B0 ?_).symm) λhc=>A5 (Cb hA E8)<|next () λc=>?_
   ·obtain⟨q,mq,e⟩:=Bv.1 (at_mem hA);have e2:=An hc;have:q=p:=apa (hC q mq) hp A4 A4 (by rw[e,e2]);rw[<-this];exact mq
   ·grind
  ·rw[DB,B8];exact AU (Bl λc=>hP<|Bv.2 ⟨p,c,rfl⟩).symm
 obtain⟨r,e,rfl⟩:=key;exact e
theorem y6{l:A3 α}:l.Sublist (A++[x])↔l.Sublist A\/∃r,l=r++[x]/\r.Sublist A:=by
 rw[WG];constructor
 ·grind
 ·rintro(h|⟨r,rfl,h⟩)
  ·exact⟨l,[],AS,h,AS⟩
  ·grind
theorem nT{a b c:α}:[c,b,a].Sublist (A++[x])↔[c,b,a].Sublist A\/(a=x/\[c,b].Sublist A):=by
 rw[y6];refine or_congr Iff.rfl ⟨?_,?_⟩
 ·rintro⟨r,e,h⟩;have e2:[c,b]++[a]=r++[x]:=e;obtain⟨e3,e4⟩:=ZG e2 rfl;cases e4;rw[<-e3] at h;exact⟨rfl,h⟩
 ·grind
def nU{b c:α}:[c,b].Sublist (A++[x])↔[c,b].Sublist A\/(b=x/\c∈A):=by
 rw[y6];refine or_congr Iff.rfl ⟨?_,?_⟩
 ·rintro⟨r,e,h⟩;have e2:[c]++[b]=r++[x]:=e;obtain⟨e3,e4⟩:=ZG e2 rfl;cases e4;rw[<-e3] at h;exact⟨rfl,ZS.1 h⟩
 ·rintro⟨rfl,h⟩;exact⟨[c],rfl,ZS.2 h⟩
def Met(a b c:C3)(p:Q3):Prop:=Ed (rh a).1 (rh b).1 (rh c).1≠0/\p=Im (rh a) (rh b) (rh c)
def Tri(A:A3 C3)(p:Q3):Prop:=∃a b c,[c,b,a].Sublist A/\Met a b c p
def Duo(x:C3)(B:A3 C3)(p:Q3):Prop:=∃b c,[c,b].Sublist B/\Met x b c p
def Uno(x y:C3)(D:A3 C3)(p:Q3):Prop:=∃c∈D,Met x y c p
def ajW{A:A3 C3}{x:C3}:Tri (A++[x]) p↔Tri A p\/Duo x A p:=by
 constructor
 ·rintro⟨a,b,c,h,m⟩;rcases nT.1 h with h2|⟨e,h2⟩
  ·exact .inl ⟨a,b,c,h2,m⟩
  ·rw[e] at m;exact .inr ⟨b,c,h2,m⟩
 ·rintro(⟨a,b,c,h,m⟩|⟨b,c,h,m⟩)
  ·exact⟨a,b,c,nT.2<| .inl h,m⟩
  ·exact⟨x,b,c,nT.2<| .inr ⟨rfl,h⟩,m⟩
def al9{x:C3}{B:A3 C3}{y:C3}:Duo x (B++[y]) p↔Duo x B p\/Uno x y B p:=by
 constructor
 ·rintro⟨b,c,h,m⟩;rcases nU.1 h with h2|⟨e,h2⟩
  ·exact .inl ⟨b,c,h2,m⟩
  ·rw[e] at m;exact .inr ⟨c,h2,m⟩
 ·rintro(⟨b,c,h,m⟩|⟨c,h,m⟩)
  ·exact⟨b,c,nU.2<| .inl h,m⟩
  ·exact⟨y,c,nU.2<| .inr ⟨rfl,h⟩,m⟩
def oF{x y:C3}{D:A3 C3}{z:C3}:Uno x y (D++[z]) p↔Uno x y D p\/Met x y z p:=by
 unfold Uno;simp[Cp,Z8,exists_or]
def Crs(l:A3 C3)(X:Q3->Prop)(out:A3 T3):Prop:=
 ∃C:A3 Q3,out=C.map Ap/\C.Nodup/\(∀p∈C,Bu 500 p)/\C.length<=l.length*(l.length*l.length)/\∀p,p∈C↔Mem (l.map rh) p/\X p
theorem Crs.congr{X Y:Q3->Prop}{out:A3 T3}(h:Crs l X out)(e:∀p,X p↔Y p):Crs l Y out:=by grind [Crs]
theorem afZ(o:∀h∈l,D8 h)(hl:l.length<=50):Yd (λr=>Crs l (Tri l) r) (bT l):=by
 have asC:l.length*(l.length*l.length)<=125000:=GB hl<|GB hl hl
 have inl:∀{A C:A3 C3} {x:C3},l=A++x::C->(∀y∈A,y∈l):=λh y my=>by rw[h];exact Mn _ my
 unfold bT;refine Cz l (λ(s:A3 T3) i=>(s,i)) (λA s=>Crs l (Tri A) s) (λA x C s k hA hP next=>?_) (λs k hP=>?_) (s0:=[]) ⟨[],rfl,List.nodup_nil,AS,AS,λp=>by simp[Tri]⟩ A4
 ·dsimp only;rw[DD hA,Bf];have al:=Dt hA;refine Cz A (λ(t:A3 T3) i=>(t,i)) (λB t=>Crs l (λp=>Tri A p\/Duo x B p) t) (λB y D t k2 hB hQ HG=>?_) (λt k2 hQ=>?_) (s0:=s) (hP.congr λp=>by simp[Duo]) A4
  ·dsimp only;rw[DD hB,Bf];have bl:=Dt hB;have hB':l=B++y::(D++x::C):=by rw[hA,hB];simp
   refine Cz B (λ(u:A3 T3) i=>(u,i)) (λE u=>Crs l (λp=>(Tri A p\/Duo x B p)\/Uno x y E p) u) (λE z F u k3 hE hR Wn=>?_) (λu k3 hR=>?_) (s0:=t) (hQ.congr λp=>by simp[Uno]) A4
   ·dsimp only;rw[DD hE,Bf];have el:=Dt hE;have hE':l=E++z::(F++y::(D++x::C)):=by rw[hB',hE];simp
    have ox:=o x<|at_mem hA
    have oy:=o y<|at_mem hB'
    have oz:=o z<|at_mem hE'
    refine Du (λu'=>Crs l (λp=>(Tri A p\/Duo x B p)\/Uno x y (E++[z]) p) u') (λu' h'=>A5 (Cb hE A4)<|Wn u' h') λMy BZ=>?_
    refine A5 (C8 hA)<|A5 (C8 hB')<|A5 (C8 hE')<|A5 (ahN ox oy oz) ?_
    obtain⟨W,w1,w2,w3,w4,w5⟩:=hR;by_cases hd:Ed (rh x).1 (rh y).1 (rh z).1=0
    ·rw[B0 hd,Bf];refine BZ u ⟨W,w1,w2,w3,w4,λp=>?_⟩;rw[w5];dsimp only;rw[oF];have: ¬Met x y z p:=λm=>m.1 hd
     simp[this]
    ·rw[Bl hd,B8];have lp:=amW ox oy oz hd;have hm:∀p,Met x y z p↔p=Im (rh x) (rh y) (rh z):=λp=>⟨λm=>m.2,λe=>⟨hd,e⟩⟩
     have hv:Mem (l.map rh) (Im (rh x) (rh y)<|rh z)->∀q,q∈W++[Im (rh x) (rh y)<|rh z]↔Mem (l.map rh) q/\((Tri A q\/Duo x B q)\/Uno x y (E++[z]) q):=λhc q=>by
      rw[Cp,w5,oF,hm,DV];constructor
      ·grind
      ·grind
     generalize Im (rh x) (rh y) (rh z)=v at*
     refine Az (agi o A4 lp A4) λb hb=>?_
     cases b with
     |false=>
      refine BZ u ⟨W,w1,w2,w3,w4,λp=>?_⟩;rw[w5];dsimp only;rw[oF,hm];constructor
      ·grind
      ·grind
     |true=>
      have hc:=hb.1 rfl;show Yd _ (bd (Ur u<|Ap v) _);rw[w1];refine A5 (age A4 w3 lp A4) ?_;by_cases hw:v∈W
      ·rw[B0 hw];refine BZ _ ⟨W,rfl,w2,w3,w4,λp=>?_⟩;have:=hv hc p;rw[<-this,Cp,DV];exact⟨.inl,λh=>h.elim id λe=>by rw[e];exact hw⟩
      ·rw[Bl hw];show Yd _ (bd (BH 48 _ _) _);have nd:(W++[v]).Nodup:=AY;refine A5 (app_1 A4 (by rw[Bp];omega))<|BZ _ ⟨W++[v],AS,nd,λp mp=>?_,?_,hv hc⟩
       ·grind
       ·have e:l.length=(l.map rh).length:=(Bp _).symm;rw[e];refine fU nd λp mp=>?_
        obtain⟨a,b⟩:=(hv hc p).1 mp;have met:∀{a b c:C3},a∈l->b∈l->c∈l->Met a b c p->C1 (l.map rh) p:=λ{a' b' c'} ma mb mc m=>
         Vc.2 ⟨a,_,Bv.2 ⟨_,ma,rfl⟩,_,Bv.2 ⟨_,mb,rfl⟩,_,Bv.2 ⟨_,mc,rfl⟩,m.1,m.2⟩
        rcases b with(⟨a',b',c',s,m⟩|⟨b',c',s,m⟩)|⟨c',mc,m⟩
        ·exact met (inl hA _<|s.subset AS) (inl hA _<|s.subset AS) (inl hA _<|s.subset AS) m
        ·exact met (at_mem hA) (inl hB' _<|s.subset AS) (inl hB' _<|s.subset AS) m
        ·grind
   ·dsimp only;rw[DB,B8];exact A5 (Cb hB A4) (HG u (hR.congr λp=>by rw[al9,or_assoc]))
  ·dsimp only;rw[DB,B8];exact A5 (Cb hA A4) (next t (hQ.congr λp=>by rw[ajW]))
 ·dsimp only;rw[DB,B8];exact AU hP
def ale:Mem (l.map rh) p/\Tri l p↔C1 (l.map rh) p:=by
 rw[ahm];refine and_congr Iff.rfl ⟨?_,?_⟩
 ·rintro⟨a,b,c,s,m⟩;exact⟨rh a,rh b,rh c,s.map rh,m.1,m.2⟩
 ·rintro⟨a,b,c,s,m⟩;obtain⟨r,hr,e⟩:=List.sublist_map_iff.1 s
  match r,e with
  |[c',b',a'],e=>
   simp only[Mf,ZA,List.cons.injEq,and_true] at e;obtain⟨rfl,rfl,rfl⟩:=e;exact⟨a',b',c',hr,m⟩
def aji(hC:∀p∈C,Bu 500 p)(hl:C.length<=100000000):
  Yd (λr=>(r<3/\∃m:Q3,m≠o3/\∃c,∀p∈C,AK m p=c)\/(r=3/\∃a∈C,∃b∈C,∃c∈C,∃d∈C,Ed (B7 b a) (B7 c a) (B7 d a)≠0)) (dI<|C.map Ap):=by
 unfold dI;rw[Bp];cases C with
 |nil=>exact AU<| .inl ⟨dcZ,_,Vr,0,AS⟩
 |cons a T=>
  rw[Bl (show¬((a::T).length:Int)=0 by simp;omega),B8];refine UA (a::T) (λ(s:T3×T3×Int) i=>(s.1,s.2.1,s.2.2,i)) (λA s=>∃u n:Q3,IJ a (a::T) A u n s.2.2/\(s.2.2=1->s.1=Ap u/\Bu 1001 u)/\(s.2.2=2->s.2.1=Ap n/\Bu 4005 n)) (λA p D s k hA hP next=>?_) (λs k hP=>?_) [a] T (s0:=(([],[],[]),([],[],[]),0)) rfl ⟨o3,o3,.inl ⟨rfl,AS⟩,λh=>by simp at h,λh=>by simp at h⟩ A4
  ·dsimp only;rw[DD hA,Bf];have mp:=at_mem hA;have lp:=hC p mp;have la:=hC a Dq;have ld:=Z5 lp la;obtain⟨u,n,h,h1,h2⟩:=hP;refine Du (λs':T3×T3×Int=>∃u n:Q3,IJ a (a::T) (A++[p]) u n s'.2.2/\(s'.2.2=1->s'.1=Ap u/\Bu 1001 u)/\(s'.2.2=2->s'.2.1=Ap n/\Bu 4005 n)) (λs' h'=>A5 (Cb hA A4)<|next s' h') λk6 h6=>?_
   have ix:AA ((a::T).map Ap) (A.length:Int)=some (Ap p):=by
    have:=C8 hA;rw[KW] at this⊢;rw[Gg,this];rfl
   refine A5 ix<|A5 (x:=Ap a) rfl<|A5 (a7 lp la A4) ?_
   have atY:s.2.2=0\/s.2.2=1\/s.2.2=2:=by rcases h with⟨e,_⟩|⟨e,_⟩|⟨e,_⟩<;>simp[e]
   obtain⟨s1,s2,dim⟩:=s;dsimp only at*;rcases atY with rfl|rfl|rfl
   ·rw[show gd (decide<|(0:Int)=0) true=true from rfl,CU rfl];refine A5 (qu ld A4) ?_;by_cases e:B7 p a=o3
    ·rw[B0 e];exact h6 (s1,s2,0) ⟨u,n,h.s0 e,λh=>by simp at h,λh=>by simp at h⟩
    ·rw[Bl e];exact h6 (Ap<|B7 p a,s2,1) ⟨_,n,h.s01 mp e,λ_=>⟨rfl,M5 ld A4⟩,λh=>by simp at h⟩
   ·obtain⟨e1,l1⟩:=h1 rfl;subst e1;have lc:=MZ l1 ld;show Yd _ (bd (Lv (Ap u)<|Ap<|B7 p a) _);refine A5 (S4 l1 ld A4) ?_;rw[show gd (decide<|(1:Int)=1) true=true from rfl,CU rfl];refine A5 (qu lc A4) ?_;by_cases e:Ac u (B7 p a)=o3
    ·rw[B0 e];exact h6 (Ap u,s2,1) ⟨u,n,h.s1 e,λ_=>⟨rfl,l1⟩,λh=>by simp at h⟩
    ·rw[Bl e];show Yd _ (bd (Lv (Ap u)<|Ap<|B7 p a) _);exact A5 (S4 l1 ld A4) (h6 (Ap u,Ap<|Ac u<|B7 p a,2) ⟨u,_,h.EF mp e,λh=>by simp at h,λ_=>⟨rfl,M5 lc A4⟩⟩)
   ·obtain⟨e1,l1⟩:=h2 rfl;subst e1;show Yd _ (bd (Py (Ap n)<|Ap<|B7 p a) _);refine A5 (aJ l1 ld A4) ?_;rw[show gd (decide<|(2:Int)=2) true=true from rfl,CU rfl];refine A5 (yq (WZ l1 ld) A4) ?_;by_cases e:AK n (B7 p a)=0
    ·rw[B0 e];exact h6 (s1,Ap n,2) ⟨u,n,h.s2 e,λh=>by simp at h,λ_=>⟨rfl,l1⟩⟩
    ·rw[Bl e];obtain⟨b,mb,c,mc,hd⟩:=h.s3 e;exact AU<| .inr ⟨rfl,a,Dq,b,mb,c,mc,p,mp,hd⟩
  ·dsimp only;rw[DB,B8];obtain⟨u,n,h,_⟩:=hP;obtain⟨m,m0,hm⟩:=h.flat;refine AU<| .inl ⟨?_,m,m0,_,hm⟩
   rcases h with⟨e,_⟩|⟨e,_⟩|⟨e,_⟩<;>rw[e]<;>decide
def cnt(C:A3 Q3)(h:H3):Nat:=(C.filter λp=>decide<|val h p=0).length
structure Ons(hs:A3 C3)(p:Q3)(o:A3 Int):Prop where
 nd:o.Nodup
 iff:∀j:Int,j∈o↔∃(m:Nat) (h:C3),j=(m:Int)/\hs[m]? =some h/\val (rh h) p=0
def Ons.len{hs:A3 C3}{o:A3 Int}(h:Ons hs p o):o.length<=hs.length:=by
 have:=Kp (l:=o) (T:=(List.range hs.length).map λm:Nat=>(m:Int)) h.nd λj mj=>by
  obtain⟨m,x,e,hx,_⟩:=(h.iff j).1 mj;exact Bv.2 ⟨m,QJ.2 (GD.1 hx).1,e.symm⟩
 simpa using this
def Ons.at{hs:A3 C3}{p:Q3}{o:A3 Int}(h:Ons hs p o){m:Nat}{x:C3}(hx:hs[m]? =some x):(m:Int)∈o↔val (rh x) p=0:=by
 rw[h.iff];constructor
 ·rintro⟨m',y,e,hy,t⟩;have:m=m':=A4;subst this;rw[hx] at hy;cases hy;exact t
 ·intro t;exact⟨m,x,rfl,hx,t⟩
def afP(o:∀h∈l,D8 h)(hl:l.length<=50)(hp:Bu 500 p):Yd (λr=>Ons l p r) (ba l<|Ap p):=by
 unfold ba;refine Cz l (λ(s:A3 Int) i=>(s,i)) (λA s=>Ons A p s) (λA x C s k hA hP next=>?_) (λs k hP=>?_) (s0:=[]) ⟨List.nodup_nil,λj=>by simp⟩ A4
 ·dsimp only;rw[DD hA,Bf];have al:=Dt hA;have sl:=hP.len;have GK:∀j:Int,(∃(m:Nat) (h:C3),j=(m:Int)/\(A++[x])[m]? =some h/\val (rh h) p=0)↔j∈s\/(j=(A.length:Int)/\val (rh x) p=0):=λj=>by
   rw[hP.iff];constructor
   ·rintro⟨m,h,e,hm,t⟩;by_cases hlt:m<A.length
    ·rw[MG hlt] at hm;exact .inl ⟨m,h,e,hm,t⟩
    ·have hb:=(GD.1 hm).1;have em:m=A.length:=by simp at hb;omega
     subst em;rw[NU<|BM _] at hm;simp at hm;rw[hm];exact .inr ⟨e,t⟩
   ·rintro(⟨m,h,e,hm,t⟩|⟨e,t⟩)
    ·exact⟨m,h,e,by rw[MG (GD.1 hm).1];exact hm,t⟩
    ·exact⟨A.length,x,e,AS,t⟩
  refine Du (λs':A3 Int=>Ons (A++[x]) p s') (λs' h'=>A5 (Cb hA A4)<|next s' h') λk5 h5=>?_
  refine A5 (C8 hA)<|A5 (qw (o x<|at_mem hA) hp A4) ?_
  rw[sign_zero];refine Ad (λhc=>A5 (app_1 A4 A4)<|h5 _ ⟨?_,λj=>?_⟩) λhc=>h5 _ ⟨hP.nd,λj=>?_⟩
  ·rw[qB];refine⟨hP.nd,AS,λa ma b mb e=>?_⟩;obtain⟨m,h,e1,hm,_⟩:=(hP.iff a).1 ma;rw[DV.1 mb] at e;have:=(GD.1 hm).1;omega
  ·rw[Cp,DV,GK];simp[An hc]
  ·rw[GK];simp[BQ hc]
 ·dsimp only;rw[DB,B8];exact AU hP
def aiE{a b:A3 Int}(hb:b.Nodup)(ha:a.length<=100)(hbl:b.length<=100):V5 a b=some (a.filter λx=>decide<|x∈b):=by
 refine G5 ?_;unfold V5;refine Cz a (λ(s:A3 Int) i=>(s,i)) (λA s=>s=A.filter λx=>decide<|x∈b) (λA x C s k hA hP next=>?_) (λs k hP=>?_) (s0:=[]) rfl A4
 ·dsimp only;rw[DD hA,Bf];have al:=Dt hA;have sl:s.length<=A.length:=by rw[hP];exact WE _ _
  refine Cz b (λ(t:A3 Int) i=>(t,i)) (λB t=>t=s++(bif decide (x∈B) then [x] else [])) (λB y D t k2 hB hQ HG=>?_) (λt k2 hQ=>?_) (s0:=s) AS A4
  ·dsimp only;rw[DD hB,Bf];refine Du (λt':A3 Int=>t'=s++(bif decide (x∈B++[y]) then [x] else [])) (λt' h'=>A5 (Cb hB A4)<|HG t' h') λk8 h8=>?_
   refine A5 (C8 hA)<|A5 (C8 hB)<|Ad (λhc=>?_) λhc=>h8 _ ?_
   ·have e:=An hc;have LI:x∉B:=λmx=>by
     rw[hB,qB] at hb;exact hb.2.2 x mx y Dq e
    have t0:t=s:=by rw[hQ];simp[LI]
    refine A5 (C8 hA) (A5 (app_1 A4 (by rw[t0];omega))<|h8 _ ?_);rw[t0,B0 (show x∈B++[y] by simp[e])];rfl
   ·have e:=BQ hc;rw[hQ];have:decide (x∈B++[y])=decide (x∈B):=Gf.2 (by simp[e]);rw[this]
  ·dsimp only;rw[DB,B8];refine A5 (Cb hA A4)<|next t ?_
   rw[hQ,hP,QN];cases hd:decide (x∈b)<;>simp[hd]
 ·dsimp only;rw[DB,B8];exact AU hP
abbrev ZL:=A3<|Q3×A3 Int
def ajH(o:∀h∈l,D8 h)(hl:l.length<=50)(hC:∀p∈C,Bu 500 p)(hn:C.length<=1000000):
  Yd (λr=>r.1=(l.filter λh=>decide<|3<=cnt C (rh h))/\r.2.1=C.map Ap/\∃Z:ZL,Z.map (·.1)=C/\r.2.2=Z.map (·.2)/\∀z∈Z,Ons r.1 z.1 z.2) (dK l<|C.map Ap):=by
 have cm:(C.map Ap).length=C.length:=Bp _;unfold dK;refine Cz l (λ(s:A3 C3×A3 T3×A3 (A3 Int)) i=>(s,i)) (λA s=>s.1=(A.filter λh=>decide<|3<=cnt C (rh h))/\s.2.2=[]) (λA x D s k hA hP next=>?_) (λs k hP=>?_) (s0:=([],[],[])) ⟨rfl,rfl⟩ A4
 ·dsimp only;rw[DD hA,Bf];have al:=Dt hA;have ox:=o x<|at_mem hA
  refine Du (λs':A3 C3×A3 T3×A3 (A3 Int)=>s'.1=((A++[x]).filter λh=>decide<|3<=cnt C (rh h))/\s'.2.2=[]) (λs' h'=>A5 (Cb hA A4)<|next s' h') λk5 h5=>?_
  refine Cz C (λ(t:Int) i=>(t,i)) (λB t=>t=(cnt B (rh x):Int)) (λB p E t k7 hB hQ HG=>?_) (λt k7 hQ=>?_) (s0:=0) rfl A4
  ·dsimp only;rw[cm,DD hB,Bf];have bl:=Dt hB;have ix:AA (C.map Ap) (B.length:Int)=some (Ap p):=by
    have:=C8 hB;rw[KW] at this⊢;rw[Gg,this];rfl
   have cb:cnt B (rh x)<=B.length:=WE _ _;refine Du (λt':Int=>t'=(cnt (B++[p]) (rh x):Int)) (λt' h'=>A5 (Cb hB A4)<|HG t' h') λK2 BS=>?_
   have ca:cnt (B++[p]) (rh x)=cnt B (rh x)+bif decide (val (rh x) p=0) then 1 else 0:=by
    unfold cnt;rw[QN,ED];cases hd:decide (val (rh x) p=0)<;>simp[hd]
   refine A5 (C8 hA)<|A5 ix<|A5 (qw ox (hC p<|at_mem hB) A4) ?_
   rw[sign_zero];refine Ad (λhc=>A5 BC (BS _ (by rw[ca,hc,hQ];simp))) λhc=>BS _ (by rw[ca,hc,hQ];simp)
  ·dsimp only;rw[cm,DB,B8];have e:decide (3<=t)=decide (3<=cnt C (rh x)):=Gf.2 A4;rw[e];have fl:s.1.length<=A.length:=by rw[hP.1];exact WE _ _
   refine Ad (λhc=>A5 (C8 hA)<|A5 (app_1 A4 A4)<|h5 _ ⟨?_,hP.2⟩) λhc=>h5 _ ⟨?_,hP.2⟩
   ·rw[QN,hP.1];simp[An hc]
   ·rw[QN,hP.1];simp[BQ hc]
 ·dsimp only;rw[DB,B8];have os:∀h∈s.1,D8 h:=λh mh=>o h (by rw[hP.1] at mh;exact(HZ.1 mh).1)
  have sl:s.1.length<=l.length:=by rw[hP.1];exact WE _ _
  refine Cz C (λ(t:A3 (A3 Int)) i=>((s.1,C.map Ap,t),i)) (λB t=>∃Z:ZL,Z.map (·.1)=B/\t=Z.map (·.2)/\∀z∈Z,Ons s.1 z.1 z.2) (λB p E t k7 hB hQ HG=>?_) (λt k7 hQ=>?_) (s0:=s.2.2) ⟨[],rfl,by rw[hP.2];rfl,AS⟩ A4
  ·dsimp only;rw[cm,DD hB,Bf];have bl:=Dt hB;have ix:AA (C.map Ap) (B.length:Int)=some (Ap p):=by
    have:=C8 hB;rw[KW] at this⊢;rw[Gg,this];rfl
   obtain⟨Z,z1,z2,z3⟩:=hQ;have tl:t.length=B.length:=by rw[z2,<-z1,Bp,Bp]
   refine A5 ix (Az (afP os A4<|hC p<|at_mem hB) λr hr=>A5 (app_1 A4 A4) (A5 (Cb hB A4) (HG _ ⟨Z++[(p,r)],by simp[z1],by simp[z2],λz mz=>?_⟩)));rcases Cp.1 mz with m|m
   ·exact z3 z m
   ·rw[DV.1 m];exact hr
  ·dsimp only;rw[cm,DB,B8];exact AU ⟨hP.1,rfl,hQ⟩
structure Rel(K:C3->Prop)(l A:A3 C3)(T:A3 Int)(hv:A3 C3):Prop where
 len:T.length=l.length
 Ib:hv.Pairwise Jz
 mem:∀h,h∈hv↔h∈A/\K h
 at_:∀(j:Nat) (x:C3),A[j]? =some x->∃t:Int,T[j]? =some t/\((¬K x/\t= -1)\/(K x/\∃m:Nat,t=(m:Int)/\hv[m]? =some x))
abbrev NY:=A3 C3×A3 T3×A3 (A3 Int)
structure RS(s:NY)(M:A3 H3)(Z:ZL):Prop where
 ok:∀h∈s.1,D8 h
 Ib:s.1.Pairwise Jz
 fac:∀k,k∈s.1.map rh↔k∈M/\3<=cnt (Z.map (·.1)) k
 cor:s.2.1=Z.map (λz=>Ap z.1)
 on:s.2.2=Z.map (·.2)
 nd:(Z.map (·.1)).Nodup
 mem:∀p,p∈Z.map (·.1)↔C1 M p
 ons:∀z∈Z,Ons s.1 z.1 z.2
def NZ.refl(M:A3 H3):NZ M M:=⟨λ_ h=>h,λh mh=>⟨h,mh,rfl,Gx⟩⟩
def RS.XB{s:NY}{Z:ZL}(R:RS s M Z)(I:Da S M)(k:H3):k∈s.1.map rh↔k∈S.map (·.1):=by
 rw[R.fac,mT I (NZ.refl M) R.mem R.nd];rfl
def RS.vtx{s:NY}{Z:ZL}(R:RS s M Z){z:Q3×A3 Int}(mz:z∈Z):C1 M z.1:=(R.mem z.1).1<|Bv.2 ⟨z,mz,rfl⟩
def RS.len{s:NY}{Z:ZL}(R:RS s M Z):s.1.length<=M.length:=by
 have nb:(s.1.map rh).Nodup:=Mm.2 (WH (λ{x y} mx my h e=>by
  rw[WV (R.ok x mx) (R.ok y my) e] at h;exact qY _ h) R.Ib)
 have:=Kp nb λx mx=>((R.fac x).1 mx).1
 rwa [Bp] at this
def RS.abq{s:NY}{Z:ZL}(R:RS s M Z)(h:M.length<=31):Z.length<=29791:=by
 have:=fU R.nd λp mp=>(R.mem p).1 mp
 rw[Bp] at this;have:=GB h<|GB h h
 omega
def vZ(o:∀h∈l,D8 h)(hl:l.length<=50):
  Yd (λr=>(r.2=13/\ ¬Eg (l.map rh))\/(r.2=12/\Eg (l.map rh)/\ ¬SQ (l.map rh))\/(r.2=0/\Eg (l.map rh)/\SQ (l.map rh)/\r.1.1.Pairwise Jz/\(∀S,Da S (l.map rh)->∀h,h∈r.1.1↔h∈l/\rh h∈S.map (·.1))/\∃Z,RS r.1 (l.map rh) Z)) (VE l):=by
 unfold VE;refine Az (afW o hl) λb hb=>Ad (λhc=>AU<| .inl ⟨rfl,λc=>?_⟩) λhc=>?_
 ·rw[hb.2 c] at hc;cases hc
 have hB:Eg (l.map rh):=hb.1 (by simpa using hc);refine Az (aiC o hl) λs ⟨S,sl⟩=>?_
 have os:∀h∈s,D8 h:=λh mh=>o h<|S.sub h mh
 have L:=S.least;refine Az (afZ os A4) λr hr=>?_
 obtain⟨C,c1,c2,c3,c4,c5⟩:=hr;have asC:s.length*(s.length*s.length)<=125000:=GB (show s.length<=50 by omega) (GB (show s.length<=50 by omega) (show s.length<=50 by omega));have cv:∀p,p∈C↔C1 (s.map rh) p:=λp=>by rw[c5,ale]
 rw[c1];refine Az (aji c3 A4) λd hd=>?_
 rcases hd with⟨d3,m,m0,c,hm⟩|⟨rfl,a,ma,b,mb,c,mc,d,md,atZ⟩
 ·rw[B0 d3,Bf];exact AU<| .inr<| .inl ⟨rfl,hB,agK hB m0 λp hp=>hm p<|(cv p).2<|(L.vtx p).2 hp⟩
 ·rw[show decide ((3:Int)<3)=false from rfl,B8];have mem:∀{p},p∈C->Mem (l.map rh) p:=λmp=>((L.vtx _).1<|(cv _).1 mp).1
  have hi:SQ (l.map rh):=akw (λk mk=>(D8.abT o k mk).nz) (mem ma) (mem mb) (mem mc) (mem md) atZ;obtain⟨w,_,hw⟩:=zk o hl;have I:Da w.1 (l.map rh):=by
   rcases hw with⟨_,h⟩|⟨_,_,h⟩|⟨_,h⟩
   ·exact absurd hB h
   ·exact absurd hi h
   ·exact h
  refine Az (ajH os A4 c3 A4) λD ⟨d1,d2,Z,z1,z2,z3⟩=>?_
  have R:RS D (l.map rh) Z:=by
   refine⟨λh mh=>?_,?_,λk=>?_,?_,z2,by rw[z1];exact c2,λp=>by rw[z1,cv,L.vtx],z3⟩
   ·rw[d1] at mh;exact os h (HZ.1 mh).1
   ·rw[d1];exact S.Ib.filter _
   ·rw[z1,d1,<-show _↔k∈l.map rh/\3<=cnt C k from mT I (NZ.refl _) (λp=>by rw[cv,L.vtx]) c2 k,mT I L cv c2];constructor
    ·intro mk;obtain⟨x,mx,e⟩:=Bv.1 mk;obtain⟨m1,m2⟩:=HZ.1 mx;rw[<-e];exact⟨Bv.2 ⟨x,m1,rfl⟩,An m2⟩
    ·rintro⟨mk,h3⟩;obtain⟨x,mx,e⟩:=Bv.1 mk;rw[<-e] at h3⊢;exact Bv.2 ⟨x,HZ.2 ⟨mx,B0 h3⟩,rfl⟩
   ·rw[d2,<-z1,QH];rfl
  refine AU<| .inr<| .inr ⟨rfl,hB,hi,R.Ib,λF hF h=>⟨λmh=>?_,λ⟨mh,mf⟩=>?_⟩,Z,R⟩
  ·have mr:rh h∈D.1.map rh:=Bv.2 ⟨h,mh,rfl⟩;obtain⟨g,mg,e⟩:=Bv.1 ((R.fac<|rh h).1 mr).1;rw[<-WV (o g mg) (R.ok h mh) e];exact⟨mg,by rw[e];exact(R.XB hF _).1 mr⟩
  ·obtain⟨g,mg,e⟩:=Bv.1 ((R.XB hF _).2 mf);rw[<-WV (R.ok g mg) (o h mh) e];exact mg
def qR{α β:Type}{f:α->A3 β}{w:Nat}:∀{l:A3 α},(∀x∈l,(f x).length<=w)->(l.flatMap f).length<=l.length*w
 |[],_=>by simp
 |x::l,h=>by
  have:=qR (l:=l) λy my=>h y<|Bq _ my
  have:=h x Dq;rw[QM,ED,Dj,Ru];omega
def NX{β:Type}{l C:A3 α}(f:α->β)(h:l=A++x::C):AA (l.map f) (A.length:Int)=some (f x):=by
 have:=C8 h;rw[KW] at this⊢;rw[Gg,this];rfl
def ane{b:Nat}{s:A3 α}(hb:b<=1000)(hs:s.length<=1000000000):BH b [] s=some s:=by
 unfold BH;have h1:(([]:A3 α).length+s.length)*b<=140737488355328:=Ca (GB (show([]:A3 α).length+s.length<=1000000000 by simp;omega) hb) A4;rw[B0 h1,B0 (show([]:A3 α).length+s.length<=9223372036854775807 by simp;omega)];rfl
def afL{F:A3 CV}(o:∀h∈l,D8 h)(hl:l.length<=50)(I:Da F (l.map rh)):Yd (λr=>∃Z,RS r (l.map rh) Z) (RC l):=by
 unfold RC;refine Az (vZ o hl) λx hx=>AU ?_
 rcases hx with⟨_,h⟩|⟨_,_,h⟩|⟨_,_,_,_,_,h⟩
 ·exact absurd I.bdd h
 ·exact absurd I.int h
 ·exact h
def acd(l:A3 C3)(r:Int):Prop:=(r=11/\ ¬Asc l)\/(Asc l/\((r=13/\ ¬Eg (l.map rh))\/(r=12/\Eg (l.map rh)/\ ¬SQ (l.map rh))\/(Eg (l.map rh)/\SQ (l.map rh)/\∃b:A3 C3,b.Pairwise Jz/\(∀S,Da S (l.map rh)->∀h,h∈b↔h∈l/\rh h∈S.map (·.1))/\r=bif decide (b.length<l.length) then 1 else 0)))
def af6(o:∀h∈l,D8 h)(hc:bO l=some 0)(hl:l.length<=32):
  Yd (acd l) (Nz l):=by
 unfold Nz;rw[Bl (show¬32<(l.length:Int) by omega),B8,hc];refine A5 rfl ?_;show Yd _ (lp _ _ 1);have fin:Asc l->∀k:Int->A9 Int,Yd (acd l)
   (bd (VE l) λBi=>cond ((decide<|Bi.2=0)&&(decide<|(Bi.1.1.length:Int)<(l.length:Int))) (some 1)<|some Bi.2):=λhP _=>by
  refine Az (vZ o A4) λr hr=>?_
  rcases hr with⟨e,h⟩|⟨e,h1,h2⟩|⟨e,h1,h2,h3,h4,_⟩
  ·rw[e];exact AU<| .inr ⟨hP,.inl ⟨rfl,h⟩⟩
  ·rw[e];exact AU<| .inr ⟨hP,.inr<| .inl ⟨rfl,h1,h2⟩⟩
  ·rw[e];have hd:decide ((r.1.1.length:Int)<(l.length:Int))=decide (r.1.1.length<l.length):=Gf.2 A4;rw[hd];show Yd _ (cond (decide<|r.1.1.length<l.length) (some 1)<|some 0);cases hq:decide (r.1.1.length<l.length)
   ·exact AU (.inr ⟨hP,.inr (.inr ⟨h1,h2,r.1.1,h3,h4,by rw[hq];rfl⟩)⟩)
   ·exact AU (.inr ⟨hP,.inr (.inr ⟨h1,h2,r.1.1,h3,h4,by rw[hq];rfl⟩)⟩)
 cases l with
 |nil=>
  obtain⟨F,hF⟩:∃F,18446744073709551616=F+1:=⟨18446744073709551615,rfl⟩;rw[hF];exact fin (λA x y C e=>by cases A<;>cases e) λ_=>none
 |cons a T=>
  refine UA (a::T) (λ(_:Unit) i=>i) (λA _=>A≠[]/\Asc A) (λA x C s k hA hP next=>?_) (λs k hP=>?_) [a] T (s0:=()) rfl ⟨AS,λA x y C e=>by
    have:=congrArg List.length e;simp at this;omega⟩ A4
  ·rw[DD hA,Bf];obtain⟨h0,hP⟩:=hP;obtain rfl|⟨B,y,rfl⟩:A=[]\/∃B y,A=B++[y]:=(gw A).imp id λ⟨B,y,h⟩=>⟨B,y,by rw[h,qH]⟩
   ·exact absurd rfl h0
   ·have i1:AA (a::T) (B.length:Int)=some y:=by rw[KW,hA];simp
    have i2:=C8 hA;have al:=Dt hA;have f:=Cb hA A4;have en:(B++[y]).length=B.length+1:=AS;have nx:=next ()
    have Ib:=aaG (l:=a::T) (A:=B) (x:=y) (y:=x) (C:=C) (by rw[hA];simp) hP
    generalize (B++[y]).length=m at*
    subst en;refine A5 (x:=(B.length:Int)) (by rw[EZ ⟨A4,A4⟩];exact congrArg some A4)<|A5 i1<|A5 i2<|A5 (wH y.1 x.1) ?_
    refine Ad (λhv=>AU<| .inl ⟨rfl,λc=>?_⟩) λhv=>A5 f (nx ⟨AS,Ib (by simpa using hv)⟩)
    have:=c B y x C (by rw[hA];simp);have h9: ¬Ia y.1 x.1:=by simpa using hv
    exact h9 this
  ·rw[DB,B8];exact fin hP.2 k
def ajo{b:A3 C3}(o:∀h∈l,D8 h)(I:Da S (l.map rh))(hb:b.Pairwise Jz)(hm:∀h,h∈b↔h∈l/\rh h∈S.map (·.1)):b.length=S.length:=by
 have nS:(S.map (·.1)).Nodup:=Mm.2<|I.Ph.imp λh=>h
 have nb:(b.map rh).Nodup:=Mm.2 (WH (λ{x y} mx my h e=>by
  rw[WV (o x ((hm x).1 mx).1) (o y ((hm y).1 my).1) e] at h;exact qY _ h) hb)
 have h1:=Kp nb λx mx=>by
  obtain⟨h,mh,rfl⟩:=Bv.1 mx;exact((hm h).1 mh).2
 have h2:=Kp nS λx mx=>by
  obtain⟨f,mf,rfl⟩:=Bv.1 mx;obtain⟨h,mh,e⟩:=Bv.1 (I.Fb f mf).1;refine Bv.2 ⟨h,(hm h).2 ⟨mh,?_⟩,e⟩;rw[e];exact Bv.2 ⟨f,mf,rfl⟩
 rw[Bp,Bp] at h1 h2;omega
abbrev FN:=A3 C3
def Small(l:FN):Prop:=(∀h∈l,in3 h.1)/\l.length<=10/\∀h∈l,h.2.length<=14
def OkB(l:FN)(S:A3 CV):Prop:=(∀h∈l,D8 h)/\Da S (l.map rh)/\∀k∈l.map rh,k∈S.map (·.1)
def ahh{l:FN}(I:Da S (l.map rh))(h: ¬S.length<l.length):∀k∈l.map rh,k∈S.map (·.1):=λk mk=>Cl λc=>by
 have nS:(k::S.map (·.1)).Nodup:=W5.2 ⟨c,Mm.2<|I.Ph.imp λh=>h⟩;have:=Kp nS λx mx=>(Ai.1 mx).elim (λe=>by rw[e];exact mk) λm=>by
  obtain⟨f,mf,rfl⟩:=Bv.1 m;exact(I.Fb f mf).1
 simp at this;omega
def fE{l:FN}(hs:Small l):∃k,KF l=some k/\Nz l=some k.2/\(k.2=0->OkB l k.1):=by
 obtain⟨hi,l10,short⟩:=hs;obtain⟨c,c1,c2,c3⟩:=tj (λh mh=>⟨hi h mh,short h mh⟩) A4;have d32:decide ((32:Int)<(l.length:Int))=false:=Bl A4;by_cases h0:c=0
 ·subst h0;have o:=c3 rfl;obtain⟨k,k1,k2⟩:=wZ o c1 A4;obtain⟨r,r1,r2⟩:=af6 o c2 A4;have kr:k.2=r:=by
   rcases k2 with⟨e,h⟩|⟨h,k2⟩<;>rcases r2 with⟨e',h'⟩|⟨h',r2⟩
   ·rw[e,e']
   ·exact absurd h' h
   ·exact absurd h h'
   ·rcases k2 with⟨e,n⟩|⟨e,n1,n2⟩|⟨I,e⟩<;>rcases r2 with⟨e',n'⟩|⟨e',n1',n2'⟩|⟨n1',n2',b',p1,p2,e'⟩
    ·rw[e,e']
    ·exact absurd n1' n
    ·exact absurd n1' n
    ·exact absurd n1 n'
    ·rw[e,e']
    ·exact absurd n2' n2
    ·exact absurd I.bdd n'
    ·exact absurd I.int n2'
    ·rw[e,e',ajo o I p1<|p2 _ I]
  refine⟨k,k1,by rw[kr];exact r1,λz=>?_⟩;rcases k2 with⟨e,h⟩|⟨h,⟨e,_⟩|⟨e,_⟩|⟨I,e⟩⟩
  ·rw[e] at z;cases z
  ·rw[e] at z;cases z
  ·rw[e] at z;cases z
  ·refine⟨o,I,ahh I λc=>?_⟩;rw[e,B0 c] at z;cases z
 ·refine⟨([],c),?_,?_,λz=>absurd z h0⟩
  ·unfold KF;rw[d32,B8,c1];show cond (!decide (c=0)) _ _=_;rw[Bl h0];rfl
  ·unfold Nz;rw[d32,B8,c2];show cond (!decide (c=0)) _ _=_;rw[Bl h0];rfl
def abp(y x:FN):Prop:= ¬SQ (y.map rh++x.map rh)
def ie(f:FN->Int):A3 FN->Int
 |[]=>0
 |x::l=>if f x=0 then ie f l else f x
def Yh{p:α->Prop}(h:∀y∈A,p y)(hx:p x):∀y∈A++[x],p y:=λy my=>(Cp.1 my).elim (h y) λm=>by rw[DV.1 m];exact hx
def jl(f:FN->Int)(l:A3 FN)(v:Int):Prop:=(ie f l≠0/\v=ie f l)\/(ie f l=0/\((v=16/\ ¬l.Pairwise abp)\/(v=0/\l.Pairwise abp)))
theorem jl.same{f:FN->Int}{l:A3 FN}{v w:Int}(a:jl f l v)(b:jl f l w):v=w:=by
 unfold jl at a b;grind
def lN{l:FN}{k:Nat}(hn:n<=100000000):Yd (λb=>b=true->l.length<=n/\∀h∈l,h.2.length<=k) (Uk l (n:Int) (k:Int)):=by
 unfold Uk;refine Ad (λ_=>AU λc=>by cases c) λhc=>?_
 have hl:l.length<=n:=by have:=BQ hc;omega
 refine Cz l (λ(_:Unit) i=>i) (λA _=>∀h∈A,h.2.length<=k) (λA x C u k hA hP next=>?_) (λu k hP=>?_) (s0:=()) AS A4
 ·rw[DD hA,Bf];refine A5 (C8 hA) (Ad (λ_=>AU λc=>by cases c) λhc=>A5 (Cb hA A4)<|next ()<|Yh hP ?_);have:=BQ hc;omega
 ·rw[DB,B8];exact AU λ_=>⟨hl,hP⟩
def ajl{l:A3 FN}(hn:n<=100000000):Yd (λb=>b=true->l.length<=n/\∀x∈l,x.length<=10/\∀h∈x,h.2.length<=14) (dR l (n:Int)):=by
 unfold dR;refine Ad (λ_=>AU λc=>by cases c) λhc=>?_
 have hl:l.length<=n:=by have:=BQ hc;omega
 refine Cz l (λ(_:Unit) i=>i) (λA _=>∀x∈A,x.length<=10/\∀h∈x,h.2.length<=14) (λA x C u k hA hP next=>?_) (λu k hP=>?_) (s0:=()) AS A4
 ·rw[DD hA,Bf];refine A5 (C8 hA) (Az (lN (n:=10) (k:=14) A4) λb hb=>Ad (λ_=>AU λc=>by cases c) λhc=>A5 (Cb hA A4)<|next ()<|Yh hP<|hb ?_);simpa using hc
 ·rw[DB,B8];exact AU λ_=>⟨hl,hP⟩
end
section
variable{s:List UInt8}(h:s.length<=100)
include h
theorem yB:Yd (λk=>0<=k/\k<=(s.length:Int)) (LM s):=by
 unfold LM;refine Cz s (λ(_:Unit) i=>i) (λA _=>True) (λA x C u k hA _ next=>?_) (λu k _=>?_) (s0:=()) trivial A4
 ·have al:=Dt hA;rw[DD hA,Bf];exact A5 (C8 hA)<|Ad (λ_=>AU ⟨A4,A4⟩) λ_=>A5 (Cb hA A4)<|next () trivial
 ·rw[DB,B8];exact AU ⟨A4,A4⟩
theorem aoW:Yd (λr=>r.length<=100) (TB s):=by
 unfold TB;exact Az (yB h) λk hk=>A5 (EW A4 A4 A4) (AU (by rw[IC,Dn];omega))
theorem apd:Yd (λr=>r.length<=100) (TD s):=by
 unfold TD;refine Az (yB h) λk hk=>Ad (λ_=>AU dcZ) λhc=>?_
 have:=BQ hc;exact A5 BC (A5 (EW A4 A4 A4) (AU (by rw[IC,Dn];omega)))
theorem aq9:Yd (λ_=>True) (TF s):=by
 unfold TF Jk;have fin:∀r:Int,(r<0->0<s.length)->Yd (λ_=>True) (cond (decide<|r<0) (bd (C2 s 1 (s.length:Int)) λx4=>some x4)<|some s):=λr hr=>Ad (λhc=>by
  have:=hr<|An hc
  exact A5 (EW A4 A4 A4)<|AU trivial) λ_=>AU trivial
 refine Az (S:=λr=>r<0->0<s.length) (Ad (λ_=>AU λc=>absurd c<|Int.lt_irrefl 0) λ_=>?_) fin;cases s with
 |nil=>exact AU λc=>absurd c dcZ
 |cons x t=>
  rw[B0 (show(0:Int)<((x::t).length:Int) by simp),show gd true true=true from rfl,CU rfl];exact A5 (x:=x) rfl (Ad (λ_=>AU λ_=>by simp) λ_=>AU λ_=>by simp)
end
section
variable{n:Nat}{x:Rat}
def ir{α ρ:Type}{R:ρ->Prop}{S:α->Prop}{g:Bool}{d:α}{e:A9 α}{K:α->A9 ρ}(he:Yd S e)(hd:S d)(k:∀x,S x->Yd R (K x)):Yd R (Trn.Aq g d e K):=by
 obtain⟨x,e,hx⟩:=he;exact Hb (λ_=>⟨x,e,k x hx⟩) λ_=>k d hd
def ap9{s:AB}(h:s.length<=14):Yd (λ_=>True) (dq s 5):=by
 obtain⟨c,_,c2,_⟩:=wh h;unfold dq;refine A5 (x:=10) rfl<|A5 (x:=12) rfl ?_
 exact ir (S:=λ_=>True) ⟨c,c2,trivial⟩ trivial λ_ _=>ir (aoW A4) dcZ λ_ h7=>ir (aq9 h7) trivial λ_ _=>ir (apd A4) dcZ λ_ _=>AU trivial
def ahM{h:C3}(hi:in3 h.1)(hl:h.2.length<=14):Yd (λ_=>True) (bp h 999 5):=by
 obtain⟨c,_,c2,_⟩:=uP hi hl;obtain⟨f,f1,_⟩:=ap9 hl;unfold bp;refine A5 c2 ?_;have fin:∀x3:Bool,Yd (λ_=>True) (cond ((!decide (c=0))||(!x3)) (some false) (B4 (λk7 (s6:Int)=>
   cond (decide<|s6<3) (
    bd (AA ([h.1.1,h.1.2.1,h.1.2.2]:A3 Int) s6) λx9=>
    bd (AG<|0-999) λB3=>
    Aq (gd (decide<|x9<B3) false) (0) (AA ([h.1.1,h.1.2.1,h.1.2.2]:A3 Int) s6) λBg=>
    cond (((decide<|x9<B3)||(decide<|999<Bg))) (
     some false
    ) (
     bd (AG<|s6+1) λBW=>
     k7 BW
    )
   ) (
    some true
   )
  ) 0)):=λx3=>Ad (λ_=>AU trivial) λ_=>by
  refine Cz [h.1.1,h.1.2.1,h.1.2.2] (λ(_:Unit) i=>i) (λB _=>True) (λB x D t k2 hB hQ next=>?_) (λt k2 hQ=>?_) (s0:=()) trivial AS
  ·have bl:=Dt hB;rw[show [h.1.1,h.1.2.1,h.1.2.2].length=3 from rfl] at bl;rw[B0 (show(B.length:Int)<3 by omega),Bf];refine A5 (C8 hB)<|A5 (x:= -999) rfl ?_
   have nx:=A5 (K:=λBW=>k2 BW) (Cb hB AS)<|next () trivial
   exact Hb (λ_=>⟨x,C8 hB,Ad (λ_=>AU trivial) λ_=>nx⟩) λ_=>Ad (λ_=>AU trivial) λ_=>nx
  ·rw[show decide ((([h.1.1,h.1.2.1,h.1.2.2].length:Nat):Int)<3)=false from rfl,B8];exact AU trivial
 exact Hb (λ_=>⟨f,f1,fin f⟩) λ_=>fin false
def aoa{x m:Nat}(k:Nat)(e:m=3*k)(h:x<2^m):x<10^k:=by
 rw[e,Nat.pow_mul] at h;exact J8 h<|qE A4 k
theorem zo{z:Int}(hs:Cn z=true):Q0 z=some (decide<|600<(Am z.natAbs).length):=by
 have key:Yd (λb=>b=decide (600<(Am z.natAbs).length)) (Q0 z):=by
  unfold Q0 jK;rw[hs];refine A5 (x:=(bif decide (z=0) then 0 else(Nat.log2 z.natAbs:Int)+1)) rfl ?_;cases hb:decide ((1800:Int)<(bif decide (z=0) then 0 else(Nat.log2 z.natAbs:Int)+1))
  ·refine AU (Bl λc=>?_).symm;have hb:=BQ hb;have h2:(Am z.natAbs).length<=600:=by
    refine LS 600 _ A4 ?_;by_cases h0:z=0
    ·grind
    ·rw[Bl h0,B8] at hb;have:=(PF (n:=z.natAbs) (k:=1800) A4).1 A4;exact aoa (m:=1800) 600 rfl this
   omega
  ·rw[CU Em];refine A5 (x:=Bo z) (by unfold OO;rw[hs];rfl) ?_;rw[CU Em];have sQ:Om (Bo z) [45]=some (Am z.natAbs):=by
    unfold Bo;cases hc:decide (z<0)
    ·rw[B8];have hh:(Am z.natAbs).head?≠some 45:=λe=>by
      have:=DZ.1 (Kr z.natAbs).1 45<|List.mem_of_mem_head? e
      cases this
     unfold Om Sm;rw[n9 hh];rfl
    ·rw[Bf];unfold Om Sm;rw[mK];show bd (bd (C2 (45::Am z.natAbs) (([45]:AB).length:Int) ((45::Am z.natAbs).length:Int)) _) _=_;rw[EW AS E8 A4];simp;rfl
   refine A5 sQ<|AU ?_
   rw[KL];exact Gf.2 A4
 obtain⟨r,e,rfl⟩:=key;exact e
def KE(q:Rat):Bool:=decide (600<(Am q.num.natAbs).length)||decide (600<(Am q.den).length)
def H5(v:Q3):Bool:=KE v.1||(KE v.2.1||KE v.2.2)
def aoZ(h:lv n x)(hn:n<=900000):Cn x.num=true/\Cn (x.den:Int)=true:=by
 have b:=Mr h;exact⟨NC b.1 A4,NC (by rw[En];exact b.2) A4⟩
def nF(h:lv n x)(hn:n<=900000):Oq x=some (KE x):=by
 obtain⟨s1,s2⟩:=aoZ h hn;unfold Oq KE;rw[zo s1,D4];cases decide (600<(Am x.num.natAbs).length)
 ·rw[CU Em,zo s2,En];rfl
 ·rfl
def ald{v:Q3}(h:Bu n v)(hn:n<=900000):Xg v=some (H5 v):=by
 unfold Xg H5;rw[nF h.1 hn,D4];cases KE v.1
 ·rw[CU Em,nF h.2.1 hn,D4];cases KE v.2.1
  ·rw[CU Em,nF h.2.2 hn];rfl
  ·rfl
 ·rfl
def rB(h:KE x=false):x.num.natAbs<10^600/\x.den<10^600:=by
 unfold KE at h;obtain⟨h1,h2⟩:=Jr.1 h;have a:=BQ h1;have b:=BQ h2;exact⟨iJ (k:=600)<|ZJ a,iJ (k:=600)<|ZJ b⟩
def anr{v:Q3}(h:H5 v=false):Xm v=some (Ap v):=by
 unfold H5 at h;obtain⟨h1,h2⟩:=Jr.1 h;obtain⟨h2,h3⟩:=Jr.1 h2;have a:=rB h1;have b:=rB h2;have c:=rB h3;unfold Xm;rw[fC a.1 a.2,D4,fC b.1 b.2,D4,fC c.1 c.2];rfl
end
section
variable{n:Nat}{x:Rat}(h:lv n x)(hn:n<=18000)
include h hn
theorem aa6:LM (BL x)=some ((Bo x.num).length:Int):=by
 have hl:=Qb h hn;have e:BL x=Bo x.num++DO x:=by
  unfold BL DO;cases decide (x.den=1)<;>simp
 have no:∀y∈Bo x.num,y≠47:=λy my=>by
  unfold Bo at my;cases hd:decide (x.num<0)
  ·rw[hd,B8] at my;exact Ya _ y my
  ·rw[hd,Bf] at my;rcases Ai.1 my with e|m
   ·rw[e];decide
   ·exact Ya _ y m
 refine nW (by rw[e,ED];omega) (λi hi c=>?_) (λhk=>?_) A4
 ·grind
 ·rw[e,NU<|BM _,q9];rw[e,ED] at hk;unfold DO at hk⊢;cases hd:decide (x.den=1)
  ·rfl
  ·grind
theorem arL:TB (BL x)=some (Bo x.num):=by
 have hl:=Qb h hn;have e:BL x=Bo x.num++DO x:=by
  unfold BL DO;cases decide (x.den=1)<;>simp
 have l:(BL x).length=(Bo x.num).length+(DO x).length:=AY;unfold TB;rw[aa6 h hn,D4,EW A4 A4 A4];rw[e];simp[Trn.bd]
theorem arM:TD (BL x)=some (Am x.den):=by
 have hl:=Qb h hn;have e:BL x=Bo x.num++DO x:=by
  unfold BL DO;cases decide (x.den=1)<;>simp
 have l:(BL x).length=(Bo x.num).length+(DO x).length:=AY;refine G5 ?_;unfold TD;refine A5 (aa6 h hn)<|Ad (λhc=>AU ?_) λhc=>?_
 ·have hc:=An hc;have:(DO x).length=0:=A4;unfold DO at this;cases hd:decide (x.den=1)
  ·grind
  ·rw[An hd,ab8]
 ·have hc:=BQ hc;have t:DO x=47::Am x.den:=by
   unfold DO;cases hd:decide (x.den=1)
   ·rfl
   ·exfalso;refine hc ?_;rw[l];unfold DO;rw[hd];simp
  rw[t,Dj] at l;refine A5 BC<|A5 (EW A4 A4 A4)<|AU ?_
  rw[e,t];have e2:(((Bo x.num).length:Int)+1).toNat=(Bo x.num++[47]).length:=AS;rw[e2,Ch,List.take_length,show Bo x.num++47::Am x.den=(Bo x.num++[47])++Am x.den by simp,To]
theorem anS:dU (BL x)=some (bif KE x then 4 else 0):=by
 have hl:=Qb h hn;have e:BL x=Bo x.num++DO x:=by
  unfold BL DO;cases decide (x.den=1)<;>simp
 have l:(BL x).length=(Bo x.num).length+(DO x).length:=AY;have ab:TF (Bo x.num)=some (Am x.num.natAbs):=by
  have lz:lv n (x.num:Rat):=⟨by rw[PL];exact h.1,by rw[Rw];exact Z7 A4⟩;have sg:=Wb lz hn;rw[xB,PL] at sg;refine G5 ?_;unfold TF;refine A5 sg<|Ad (λhc=>?_) λhc=>AU ?_
  ·have hc:x.num<0:=gT.1 (An hc);have t:Bo x.num=45::Am x.num.natAbs:=by unfold Bo;rw[B0 hc];rfl
   refine A5 (EW A4 (by rw[t];simp;omega) A4)<|AU ?_
   rw[t];simp
  ·have hc: ¬x.num<0:=λc=>BQ hc (gT.2 c)
   unfold Bo;rw[Bl hc];rfl
 refine G5 ?_;unfold dU KE;refine A5 (arL h hn)<|A5 ab ?_
 have d1:decide ((600:Int)<((Am x.num.natAbs).length:Int))=decide (600<(Am x.num.natAbs).length):=Gf.2 A4;have d2:decide ((600:Int)<((Am x.den).length:Int))=decide (600<(Am x.den).length):=Gf.2 A4;rw[d1];cases decide (600<(Am x.num.natAbs).length)
 ·rw[CU Em];refine A5 (arM h hn) ?_;rw[d2];cases decide (600<(Am x.den).length)<;>exact AU rfl
 ·exact AU rfl
end
section
variable{n:Nat}
def al7{v:Q3}(h:Bu n v)(hn:n<=18000):bg (Ap v)=some (bif H5 v then 4 else 0):=by
 refine G5 ?_;unfold bg kT;refine Az (S:=λr=>r=bif H5 v then 4 else 0) ?_ λr hr=>AU hr
 refine Cz [v.1,v.2.1,v.2.2] (λ(_:Unit) i=>i) (λA _=>A.any KE=false) (λA x C s k hA hP next=>?_) (λs k hP=>?_) (s0:=()) rfl AS
 ·have al:=Dt hA;rw[show [v.1,v.2.1,v.2.2].length=3 from rfl] at al;rw[B0 (show(A.length:Int)<([(Ap v).1,(Ap v).2.1,(Ap v).2.2].length:Int) by simp;omega),Bf];have ix:AA [BL v.1,BL v.2.1,BL v.2.2] (A.length:Int)=some (BL x):=by
   have:=C8 hA;rw[KW] at this⊢;have:=congrArg (Option.map BL) this;rwa [<-Gg] at this
  have lx:lv n x:=by
   have:=at_mem hA;simp at this;rcases this with rfl|rfl|rfl
   ·exact h.1
   ·exact h.2.1
   ·exact h.2.2
  refine A5 ix<|A5 (anS lx hn) ?_
  cases hb:KE x
  ·rw[show(!decide ((bif false then(4:Int) else 0)=0))=false from rfl,B8];exact A5 (Cb hA AS) (next () (by rw[Vz,hP];simp[hb]))
  ·rw[show(!decide ((bif true then(4:Int) else 0)=0))=true from rfl,Bf];refine AU ?_;have:H5 v=true:=by
    unfold H5;have:=at_mem hA;simp at this;rcases this with rfl|rfl|rfl<;>rw[hb]<;>simp
   rw[this];rfl
 ·rw[show decide ((([v.1,v.2.1,v.2.2].length:Nat):Int)<([(Ap v).1,(Ap v).2.1,(Ap v).2.2].length:Int))=false from rfl,B8];refine AU ?_;have:H5 v=false:=by
   unfold H5;simpa[List.any] using hP
  rw[this];rfl
def arN{m:Nat}{x y:Rat}(hx:lv m x)(hy:lv n y)(hm:m<=8000)(hn:n<=8000):TE (BL x) (BL y)=some (x-y).num.sign:=by
 unfold TE;rw[UP hx hy A4 A4,D4,Wb (lvs hx hy) A4];rfl
instance(a b:Q3):Decidable (EA a b):=by unfold EA;exact inferInstance
theorem ajz{a b:Q3}(ha:Bu n a)(hb:Bu n b)(hn:n<=5000):dZ (Ap a) (Ap b)=some (decide<|EA a b):=by
 refine G5 ?_;unfold dZ;refine Cz [(a.1,b.1),(a.2.1,b.2.1),(a.2.2,b.2.2)] (λ(_:Unit) i=>i) (λA _=>∀p∈A,p.1=p.2) (λA x C s k hA hP next=>?_) (λs k hP=>?_) (s0:=()) AS AS
 ·have al:=Dt hA;rw[show [(a.1,b.1),(a.2.1,b.2.1),(a.2.2,b.2.2)].length=3 from rfl] at al;rw[B0 (show(A.length:Int)<3 by omega),Bf];have i1:AA [(Ap a).1,(Ap a).2.1,(Ap a).2.2] (A.length:Int)=some (BL x.1):=NX (λp:Rat×Rat=>BL p.1) hA;have i2:AA [(Ap b).1,(Ap b).2.1,(Ap b).2.2] (A.length:Int)=some (BL x.2):=NX (λp:Rat×Rat=>BL p.2) hA;have lx:lv n x.1/\lv n x.2:=by
   have:=at_mem hA;simp only[Ai,S2,or_false] at this;rcases this with e|e|e<;>rw[e]
   ·exact⟨ha.1,hb.1⟩
   ·exact⟨ha.2.1,hb.2.1⟩
   ·exact⟨ha.2.2,hb.2.2⟩
  refine A5 i1<|A5 i2<|A5 (arN lx.1 lx.2 A4 A4) ?_
  rw[sign_zero,sign_neg];refine Ad (λhc=>AU<|Gf.2 ?_) λhc=>A5 (Cb hA AS)<|next () λp mp=>?_
  ·have hne:x.1-x.2≠0:=by simpa using hc
   unfold EA;rcases A with _|⟨a0,_|⟨a1,_|⟨a2,A⟩⟩⟩
   ·grind
   ·grind
   ·grind
   ·simp at al
  ·grind
 ·rw[show decide ((([(a.1,b.1),(a.2.1,b.2.1),(a.2.2,b.2.2)].length:Nat):Int)<3)=false from rfl,B8];refine AU (Bl ?_).symm;have h0:=hP _ (by simp:(a.1,b.1)∈_);have h1:=hP _ (by simp:(a.2.1,b.2.1)∈_);have h2:=hP _ (by simp:(a.2.2,b.2.2)∈_);dsimp only at h0 h1 h2;unfold EA
  grind
def jI{α:Type}{b:Nat}{u v:A3 α}(hb:b<=1000)(h:u.length+v.length<=1000000000):BH b u v=some (u++v):=by
 unfold BH;have h1:(u.length+v.length)*b<=140737488355328:=Ca (GB h hb) A4;rw[B0 h1,B0 (show u.length+v.length<=9223372036854775807 by omega)];rfl
def im{ρ:Type}{R:ρ->Prop}{r B D:A3 Q3}(e:r=B++D){l:A3 T3}{i:Int}{x:Q3}(ix:AA l i=some (Ap x))(hl:r.length<=1000000){K:A3 T3->A9 ρ}(h:Yd R (K<|(B++x::D).map Ap)):
  Yd R (Trn.bd (C2 (r.map Ap) 0 (B.length:Int)) λBY=>Trn.bd (BH 48 ([]:A3 T3) BY) λBi=>Trn.bd (AA l i) λC5=>Trn.bd (BH 48 Bi [C5]) λCJ=>Trn.bd (C2 (r.map Ap) (B.length:Int) (r.length:Int)) λCu=>Trn.bd (BH 48 CJ Cu) K):=by
 subst e;rw[ED] at hl;have m:((B++D).map Ap).length=B.length+D.length:=AS;have s1:C2 ((B++D).map Ap) 0 (B.length:Int)=some (B.map Ap):=by
  rw[EW A4 A4 A4];simp[Mg,W9]
 have s2:C2 ((B++D).map Ap) (B.length:Int) ((B++D).length:Int)=some (D.map Ap):=by
  rw[EW A4 E8 (by rw[m];simp),Ch,Ch,Cd AS,Mg];simp[NM]
 refine A5 s1<|A5 (jI A4 E8)<|A5 ix<|A5 (jI A4 E8)<|A5 s2<|A5 (jI A4 E8) ?_
 have:[]++B.map Ap++[Ap x]++D.map Ap=(B++x::D).map Ap:=AS;rw[this];exact h
end
section
variable{n:Nat}(hn:n<=4000)
include hn
theorem wD{C:A3 Q3}(hC:∀p∈C,Bu n p)(nd:C.Nodup)(hl:C.length<=1000000):Yd (λr=>∃r':A3 Q3,r=r'.map Ap/\r'.Pairwise EA/\∀z,z∈r'↔z∈C) (XL<|C.map Ap):=by
 unfold XL;rw[Bp];refine Cz C (λ(s:A3 T3) i=>(s,i)) (λA s=>∃r:A3 Q3,s=r.map Ap/\r.Pairwise EA/\(∀z,z∈r↔z∈A)/\r.length=A.length) (λA x C' s k hA hP next=>?_) (λs k hP=>?_) (s0:=[]) ⟨[],rfl,List.Pairwise.nil,AS,rfl⟩ A4
 ·dsimp only;rw[DD hA,Bf];have al:=Dt hA;obtain⟨r,rfl,r1,r2,r3⟩:=hP;have lx:=hC x<|at_mem hA
  have lr:∀h∈r,Bu n h:=λh mh=>hC h (by rw[hA];exact Mn _<|(r2 h).1 mh)
  have ix:AA (C.map Ap) (A.length:Int)=some (Ap x):=NX Ap hA;have fx:=Cb hA A4;have nx:x∉r:=λmx=>by
   rw[hA,qB] at nd;exact nd.2.2 x ((r2 x).1 mx) x Dq rfl
  rw[Bp];have put:∀B D:A3 Q3,r=B++D->(∀h∈B,EA h x)->(∀h∈D,EA x h)->∃r':A3 Q3,(B++x::D).map Ap=r'.map Ap/\r'.Pairwise EA/\(∀z,z∈r'↔z∈A++[x])/\r'.length=(A++[x]).length:=λB D e hb hd=>by
   rw[e] at r1;obtain⟨a1,a2,a3⟩:=ME.1 r1;refine⟨B++x::D,rfl,ME.2 ⟨a1,HE.2 ⟨hd,a2⟩,λh mh y my=>?_⟩,λz=>?_,?_⟩
   ·grind
   ·grind
   ·grind
  refine Cz r (λ(_:Unit) i=>i) (λB _=>∀h∈B,EA h x) (λB h D t k7 hB hQ HG=>?_) (λt k7 hQ=>?_) (s0:=()) AS A4
  ·have hg:gd (decide<|(B.length:Int)<(r.length:Int)) true=true:=by rw[DD hB];rfl
   have bl:=Dt hB;have mh:=at_mem hB;have ih:AA (r.map Ap) (B.length:Int)=some (Ap h):=NX Ap hB;rw[CU hg];refine A5 ih ?_;rw[CU hg];refine A5 ih ?_;rw[CU hg];refine A5 ix ?_;rw[CU hg];refine A5 (ajz (lr h mh) lx A4) ?_;rw[DD hB,KL];refine Ad (λhc=>A5 (Cb hB A4)<|HG ()<|Yh hQ<|An hc) λhc=>?_
   have LI:=BQ hc;have hxh:EA x h:=((pt x h).resolve_left λe=>nx (by rw[e];exact mh)).resolve_right LI;refine im hB ix A4<|A5 fx<|next _<|put B (h::D) hB hQ λy my=>?_
   rcases Ai.1 my with e|m
   ·rw[e];exact hxh
   ·rw[hB] at r1;exact Wa hxh<|(HE.1 (ME.1 r1).2.1).1 y m
  ·have hg:gd (decide<|(r.length:Int)<(r.length:Int)) true=false:=by rw[DB];rfl
   rw[EP hg,EP hg,EP hg,EP hg,DB,Tn,B8];exact im (D:=[]) AS ix A4<|A5 fx<|next _<|put r [] AS hQ AS
 ·dsimp only;rw[DB,B8];obtain⟨r,e,r1,r2,_⟩:=hP;exact AU ⟨r,e,r1,r2⟩
structure Rnd(f:H3)(C r:A3 Q3):Prop where
 ex:∃p s,r=p::s/\(∀x∈s,EA p x)/\s.Pairwise λx y=>0<Bn f.1 p x y
 mem:∀z,z∈r↔z∈C
omit hn in
theorem Rnd.same {f:H3} {C r q:A3 Q3} (a:Rnd f C r) (b:Rnd f C q):r=q:=by
 obtain⟨⟨p,s,rfl,a1,a2⟩,a3⟩:=a;obtain⟨⟨o,t,rfl,b1,b2⟩,b3⟩:=b;have e:p=o:=by
  rcases Ai.1 ((b3 p).2<|(a3 p).1 Dq) with e|m
  ·exact e
  ·rcases Ai.1 ((a3 o).2<|(b3 o).1 Dq) with e|m'
   ·exact e.symm
   ·exact absurd (Wa (a1 o m')<|b1 p m)<|NI p
 subst e
 congr 1
 refine YT a2 b2 (λx _ y _ h k=>?_) λz=>?_
 ·have:Bn f.1 p y x= -Bn f.1 p x y:=by unfold Bn AK Ac B7;grind
  grind
 ·have:=(a3 z).trans (b3 z).symm;rw[Ai,Ai] at this;constructor
  ·intro mz;exact(this.1<| .inr mz).resolve_left λe=>NI p (by have:=a1 z mz;rw[e] at this;exact this)
  ·intro mz;exact(this.2<| .inr mz).resolve_left λe=>NI p (by have:=b1 z mz;rw[e] at this;exact this)
theorem aic{L:A3 H3}{f:H3}(hf:f.1≠o3){C:A3 Q3}(hC:∀p∈C,C1 L p/\val f p=0/\Bu n p)(ln:Bu n f.1)(nd:C.Nodup)(h0:C≠[])(hn:n<=600)(hl:C.length<=1000000):Yd (λr=>∃r':A3 Q3,r=r'.map Ap/\Rnd f C r') (dJ (Ap f.1)<|C.map Ap):=by
 unfold dJ;refine Az (wD (n:=n) A4 (λp mp=>(hC p mp).2.2) nd hl) λr ⟨r',e,r1,r2⟩=>?_
 subst e;obtain⟨p,t,rfl⟩:∃p t,r'=p::t:=by
  cases r' with
  |nil=>
   obtain⟨x,mx⟩:=List.exists_mem_of_ne_nil C h0;exact absurd ((r2 x).2 mx) AS
  |cons p t=>exact⟨p,t,rfl⟩
 obtain⟨g1,g2⟩:=HE.1 r1;have hm:∀x∈p::t,C1 L x/\val f x=0/\Bu n x:=λx mx=>hC x<|(r2 x).1 mx
 obtain⟨vp,tp,lp⟩:=hm p Dq;have rl:(p::t).length<=C.length:=Kp (r1.imp λh=>Zw h) λx mx=>(r2 x).1 mx
 rw[Bp];have i0:AA ((p::t).map Ap) 0=some (Ap p):=rfl;refine A5 i0 ?_;refine UA (p::t) (λ(s:A3 T3) i=>(s,i)) (λA s=>∃q,s=(p::q).map Ap/\q.Pairwise (λx y=>0<Bn f.1 p x y)/\(∀z,z∈p::q↔z∈A)/\(p::q).length=A.length/\∀y∈q,EA p y) (λA x C' s k hA hP next=>?_) (λs k hP=>?_) [p] t (s0:=[Ap p]) rfl ⟨[],rfl,List.Pairwise.nil,AS,rfl,AS⟩ A4
 ·dsimp only;rw[DD hA,Bf];have al:=Dt hA;obtain⟨q,rfl,q1,q2,q3,qt⟩:=hP;have mx:=at_mem hA;obtain⟨vx,tx,lx⟩:=hm x mx;have hq:∀y∈p::q,C1 L y/\val f y=0/\Bu n y:=λy my=>hm y (by rw[hA];exact Mn _<|(q2 y).1 my)
  have xA:x∉A:=λm=>by
   have:=r1.imp λ{a b} h=>Zw h
   rw[hA] at this;exact(ME.1 this).2.2 x m x Dq rfl
  have xp:x≠p:=λe=>xA (by rw[e];exact(q2 p).1 Dq)
  have xt:EA p x:=g1 x<|(Ai.1 mx).resolve_left xp
  have ix:AA ((p::t).map Ap) (A.length:Int)=some (Ap x):=NX Ap hA;have fx:=Cb hA A4;have ld:=Z5 lx lp;refine A5 ix<|A5 i0<|A5 (a7 lx lp A4) ?_
  rw[Bp];have sw:∀y,Bn f.1 p x y= -Bn f.1 p y x:=λy=>by unfold Bn AK Ac B7;grind
  have put:∀B D:A3 Q3,q=B++D->(∀h∈B,0<Bn f.1 p h x)->(∀h∈D,0<Bn f.1 p x h)->∃q':A3 Q3,((p::B)++x::D).map Ap=(p::q').map Ap/\q'.Pairwise (λx y=>0<Bn f.1 p x y)/\(∀z,z∈p::q'↔z∈A++[x])/\(p::q').length=(A++[x]).length/\∀y∈q',EA p y:=λB D e hb hd=>by
   rw[e] at q1;obtain⟨a1,a2,a3⟩:=ME.1 q1;refine⟨B++x::D,rfl,ME.2 ⟨a1,HE.2 ⟨hd,a2⟩,λh mh y my=>?_⟩,λz=>?_,?_,λy my=>?_⟩
   ·grind
   ·grind
   ·grind
   ·grind
  refine UA (p::q) (λ(_:Unit) i=>i) (λB _=>∃B',B=p::B'/\∀h∈B',0<Bn f.1 p h x) (λB h D u k7 hB hQ HG=>?_) (λu k7 hQ=>?_) [p] q (s0:=()) rfl ⟨[],rfl,AS⟩ A4
  ·have hg:gd (decide<|(B.length:Int)<((p::q).length:Int)) true=true:=by rw[DD hB];rfl
   have bl:=Dt hB;obtain⟨B',rfl,hb⟩:=hQ;have eq:q=B'++h::D:=by simpa using hB
   have mh:h∈q:=by rw[eq];simp
   obtain⟨vh,th,lh⟩:=hq h<|Bq _ mh
   have ih:AA ((p::q).map Ap) ((p::B').length:Int)=some (Ap h):=NX Ap hB;have l1:=Z5 lh lp;have l2:=MZ l1 ld;have l3:=WZ ln l2;rw[CU hg];refine A5 ih ?_;rw[CU hg];refine A5 ih ?_;rw[CU hg];refine A5 i0 ?_;rw[CU hg];refine A5 (a7 lh lp A4) ?_;rw[CU hg];refine A5 (S4 l1 ld A4) ?_;rw[CU hg];refine A5 (aJ ln l2 A4) ?_;rw[CU hg];refine A5 (Wb l3 A4) ?_;rw[DD hB,KL,fI];refine Ad (λhc=>A5 (Cb hB A4)<|HG () ⟨B'++[h],rfl,Yh hb<|An hc⟩) λhc=>?_
   have LI: ¬0<Bn f.1 p h x:=BQ hc;have hne:Bn f.1 p h x≠0:=p6 hf vp vh vx tp th tx (λe=>NI p (by have:=qt h mh;rw[<-e] at this;exact this)) xp.symm (λe=>xA (by rw[<-e];exact(q2 h).1<|Bq _ mh));have hxh:0<Bn f.1 p x h:=by rw[sw];grind
   refine im (B:=p::B') hB ix A4<|A5 fx<|next _<|put B' (h::D) eq hb λy my=>?_
   rcases Ai.1 my with e|m
   ·rw[e];exact hxh
   ·have my':y∈q:=by rw[eq];simp[m]
    obtain⟨vy,ty,_⟩:=hq y<|Bq _ my'
    rw[eq] at q1;exact abJ (d:=f.2) hf tp tx th ty xt (qt h mh) (qt y my') hxh<|(HE.1 (ME.1 q1).2.1).1 y m
  ·have hg:gd (decide<|((p::q).length:Int)<((p::q).length:Int)) true=false:=by rw[DB];rfl
   obtain⟨B',e,hb⟩:=hQ;cases e;rw[EP hg,EP hg,EP hg,EP hg,EP hg,EP hg,EP hg,DB,Tn,B8];exact im (D:=[]) AS ix A4<|A5 fx<|next _<|put q [] AS hb AS
 ·dsimp only;rw[DB,B8];obtain⟨q,rfl,q1,q2,_,q3⟩:=hP;exact AU ⟨p::q,rfl,⟨p,q,rfl,q3,q1⟩,λz=>(q2 z).trans<|r2 z⟩
end
section
variable{l:A3 Q3}{n:Nat}{S:A3 CV}
theorem Rnd.len{f:H3}{C r:A3 Q3}(a:Rnd f C r):r.Nodup:=by
 obtain⟨⟨p,s,rfl,a1,a2⟩,_⟩:=a;refine W5.2 ⟨λm=>NI p<|a1 p m,?_⟩;exact a2.imp λ{x y} h e=>by rw[e,OF] at h;exact absurd h AY
def aif{s:NY}{M:A3 H3}{Z:ZL}(R:RS s M Z)(hM:M.length<=31)(lM:∀p,C1 M p->Bu 70 p){h:C3}{m:Nat}(hm:s.1[m]? =some h):
  Yd (λr=>∃(C r':A3 Q3),r=r'.map Ap/\Rnd (rh h) C r'/\∀z,z∈C↔C1 M z/\val (rh h) z=0) (T1 s (m:Int)):=by
 have mh:=OV hm;have zl:=R.abq hM;have sl:=R.len;have e1:s.2.1.length=Z.length:=by rw[R.cor,Bp]
 unfold T1;rw[e1];refine Cz Z (λ(t:A3 T3) i=>(t,i)) (λA t=>t=(((A.filter λz=>decide<|val (rh h) z.1=0).map (·.1)).map Ap)) (λA z D t k hA hP next=>?_) (λt k hP=>?_) (s0:=[]) rfl A4
 ·dsimp only;rw[DD hA,Bf];have al:=Dt hA;have mz:=at_mem hA;refine Du (λt':A3 T3=>t'=((((A++[z]).filter λz=>decide<|val (rh h) z.1=0).map (·.1)).map Ap)) (λt' h'=>A5 (Cb hA A4)<|next t' h') λk5 h5=>?_
  have on:=R.ons z mz;have ol:=on.len;have ix:AA s.2.2 (A.length:Int)=some z.2:=by rw[R.on];exact NX (·.2) hA
  have ic:AA s.2.1 (A.length:Int)=some (Ap z.1):=by rw[R.cor];exact NX (λz:Q3×A3 Int=>Ap z.1) hA
  have tl:t.length<=A.length:=by rw[hP,Bp,Bp];exact WE _ _
  refine A5 ix<|A5 (aiE AS A4 AS) ?_
  have iff:decide ((0:Int)<((z.2.filter λx=>decide<|x∈[(m:Int)]).length:Int))=decide (val (rh h) z.1=0):=Gf.2 (by
   rw[<-on.at hm];have:(0:Int)<((z.2.filter λx=>decide<|x∈[(m:Int)]).length:Int)↔0<(z.2.filter λx=>decide<|x∈[(m:Int)]).length:=A4;rw[this,List.length_pos_iff_exists_mem];constructor
   ·rintro⟨a,ma⟩;obtain⟨m1,m2⟩:=HZ.1 ma;rw[<-DV.1 (An m2)];exact m1
   ·intro mm;exact⟨_,HZ.2 ⟨mm,B0<|DV.2 rfl⟩⟩)
  rw[iff];refine Ad (λhc=>A5 ic<|A5 (app_1 A4 A4)<|h5 _ ?_) λhc=>h5 _ ?_
  ·rw[hP,QN];simp[hc]
  ·rw[hP,QN];simp[hc]
 ·dsimp only;rw[DB,B8];have ih:AA s.1 (m:Int)=some h:=by rw[KW];exact hm
  refine A5 ih<|A5 (Ri<|R.ok h mh) ?_
  rw[hP];have mem:∀z,z∈(Z.filter λz=>decide<|val (rh h) z.1=0).map (·.1)↔C1 M z/\val (rh h) z=0:=λz=>by
   rw[<-R.mem,Bv,Bv];constructor
   ·rintro⟨w,mw,rfl⟩;obtain⟨m1,m2⟩:=HZ.1 mw;exact⟨⟨w,m1,rfl⟩,An m2⟩
   ·rintro⟨⟨w,mw,rfl⟩,t⟩;exact⟨w,HZ.2 ⟨mw,B0 t⟩,rfl⟩
  have nd:((Z.filter λz=>decide<|val (rh h) z.1=0).map (·.1)).Nodup:=(List.filter_sublist.map _).nodup R.nd;have ne:(Z.filter λz=>decide<|val (rh h) z.1=0).map (·.1)≠[]:=λe=>by
   have c:=((R.fac<|rh h).1<|Bv.2 ⟨h,mh,rfl⟩).2;unfold cnt at c;rw[List.filter_map,Bp] at c;have:=congrArg List.length e;rw[Bp,W6] at this;have c2:3<=(Z.filter λz=>decide<|val (rh h) z.1=0).length:=c;omega
  have cl:((Z.filter λz=>decide<|val (rh h) z.1=0).map (·.1)).length<=Z.length:=by rw[Bp];exact WE _ _
  generalize (Z.filter λz=>decide<|val (rh h) z.1=0).map (·.1)=C at mem nd ne cl
  refine Az (aic (n:=70) A4 (L:=M) (f:=rh h) (R.ok h mh).ac8.nz (λp mp=>⟨((mem p).1 mp).1,((mem p).1 mp).2,lM p ((mem p).1 mp).1⟩) ((R.ok h mh).lvn A4) nd ne A4 A4) λr ⟨r',e,hr⟩=>AU ⟨C,r',e,hr,mem⟩
def Fx(l:A3 Q3):Q3:=Ba (SH l)<|1/2
def ajT:BL (1/2)=[49,47,50]:=A6
def pq:lv 1 (1/2:Rat):=⟨F1 A6,F1 A6⟩
def abV(n:Nat):Bu n o3:=by
 have:lv n (0:Rat):=⟨FM _,Z7 A4⟩;exact⟨this,this,this⟩
def alf:Ap o3=([48],[48],[48]):=by
 show(BL 0,BL 0,BL 0)=_;rw[vw]
def yK(hC:∀x∈l,Bu 70 x)(h3:3<=l.length)(hl:l.length<=25):RD (l.map Ap)=some (Ap<|Fx l)/\Bu 16000 (Fx l):=by
 obtain⟨o,p,t,rfl⟩:∃o p t,l=o::p::t:=by
  match l,h3 with
  |o::p::t,_=>exact⟨o,p,t,rfl⟩
 have lo:=hC o AS;have key:Yd (λr=>r=Ap (Fx (o::p::t))/\Bu 16000 (Fx (o::p::t))) (RD<|(o::p::t).map Ap):=by
  unfold RD Xq;rw[Bp];have i0:AA ((o::p::t).map Ap) 0=some (Ap o):=rfl;refine A5 rfl ?_;rw[<-alf];refine UA (o::p::t) (λ(s:T3) i=>(s,i)) (λA s=>∃q,A=o::p::q/\s=Ap (MR o p q)/\Bu (600*A.length) (MR o p q)) (λA x D s k hA hP next=>?_) (λs k hP=>?_) [o,p] t (s0:=Ap o3) rfl ⟨[],rfl,rfl,abV _⟩ A4
  ·dsimp only;rw[DD hA,Bf];have al:=Dt hA;obtain⟨q,rfl,rfl,lq⟩:=hP;obtain⟨B,y,e⟩:∃B y,p::q=B++[y]:=by
    rcases gw (p::q) with e|⟨B,y,e⟩
    ·cases e
    ·exact⟨B,y,by rw[e,qH]⟩
   have hB:o::p::t=(o::B)++y::x::D:=by rw[hA,e];simp
   have ly:=hC y<|at_mem hB
   have lx:=hC x<|at_mem hA
   have iy:AA ((o::p::t).map Ap) ((o::B).length:Int)=some (Ap y):=NX Ap hB;have ix:=NX Ap hA;have el:(o::p::q).length=(o::B).length+1:=by rw[e];simp
   have fm:AG (((o::p::q).length:Int)-1)=some ((o::B).length:Int):=by
    rw[EZ ⟨A4,A4⟩];exact congrArg some A4
   have d1:=Z5 ly lo;have d2:=Z5 lx lo;have c:=MZ d1 d2;have a:=Vt lq c;refine A5 fm<|A5 iy<|A5 i0<|A5 (a7 ly lo A4)<|A5 ix<|A5 i0<|A5 (a7 lx lo A4)<|A5 (S4 d1 d2 A4)<|A5 (qx lq c A4)<|A5 (Cb hA A4)<|next _ ⟨q++[x],AS,?_,?_⟩
   ·rw[od o x q p y B e]
   ·rw[od o x q p y B e];refine M5 a ?_;rw[ED,Ij];omega
  ·dsimp only;rw[DB,B8];obtain⟨q,e,rfl,lq⟩:=hP;cases e;have sc:=WN lq pq A4;rw[ajT] at sc;have ar:Fx (o::p::t)=Ba (MR o p t) (1/2):=by unfold Fx;rw[aju]
   rw[ar];exact A5 sc<|AU ⟨rfl,M5 (S9 lq pq) A4⟩
 obtain⟨r,e,rfl,h⟩:=key;exact⟨e,h⟩
def aii(hC:∀x∈l,Bu 70 x)(hl:l.length<=25):VG l=some (Fx l):=by
 have ml:(FY l).length=l.length:=by rw[<-T9,YW]
 have hm:∀x∈FY l,x.1∈l/\x.2∈l:=λx hx=>by
  rw[<-T9] at hx;obtain⟨i,hi⟩:=qI.1 hx;obtain⟨a,b,_⟩:=oQ hi;exact⟨OV a,OV b⟩
 refine G5 ?_;unfold VG VB;have e:Rc l=some (FY l):=by
  unfold Rc;rw[IE (show l.length+1<=1000000000 by omega)|>(λh=>(h:Nat.blt l.length 1000000000=true)),T9];rfl
 refine A5 (x:=o3) A6<|A5 rfl<|A5 e ?_
 refine aqA (FY l) (λA s=>s=ru A/\Bu (300*A.length+1) s) (λA x D s k hA hP next=>?_) (λs hP=>?_) ⟨rfl,abV _⟩
 ·have al:=Dt hA;obtain⟨m1,m2⟩:=hm x<|at_mem hA
  obtain⟨e1,c1⟩:=wz (hC _ m1) (hC _ m2) A4 A4;have c:=MZ (hC _ m1)<|hC _ m2
  obtain⟨e2,_⟩:=zH (n:=10000) (M5 hP.2 A4) (M5 c A4) A4 A4;refine A5 e1<|A5 e2<|next _ ⟨?_,?_⟩
  ·rw[hP.1];unfold ru;rw[List.foldl_append];rfl
  ·refine M5 (Vt hP.2 c) ?_;rw[ED,Ij];omega
 ·obtain⟨rfl,ls⟩:=hP;refine A5 (x:=1) rfl<|A5 (x:=2) rfl<|A5 (x:=(1/2:Rat)) A6<|A5 (nQ (n:=10000) (M5 ls A4) (Fi pq A4) A4 A4).1<|AU ?_
  unfold Fx;rw[ahw]
def abH:∀{l:A3 C3},Asc l->l.Pairwise Jz
 |[],_=>List.Pairwise.nil
 |[x],_=>ZU _ _
 |x::y::l,h=>by
  have ih:=abH (l:=y::l) λA a b C e=>h (x::A) a b C (by rw[e];rfl)
  have xy:Jz x y:=h [] x y l rfl;refine HE.2 ⟨λz mz=>?_,ih⟩;rcases Ai.1 mz with e|m
  ·rw[e];exact xy
  ·exact rC xy<|(HE.1 ih).1 z m
def agp{l:FN}(hs:Small l)(h:KF l=some (S,0)):OkB l S/\l.Pairwise Jz:=by
 obtain⟨k,k1,_,k3⟩:=fE hs;rw[h] at k1;cases k1;refine⟨k3 rfl,?_⟩;obtain⟨hi,l10,short⟩:=hs;obtain⟨c,c1,_,c3⟩:=tj (λh mh=>⟨hi h mh,short h mh⟩) A4;by_cases h0:c=0
 ·subst h0;obtain⟨k,e,k2⟩:=wZ (c3 rfl) c1 A4;rw[h] at e;cases e;rcases k2 with⟨e,_⟩|⟨a,_⟩
  ·cases e
  ·exact abH a
 ·unfold KF at h;rw[Bl (show¬(32:Int)<(l.length:Int) by omega),B8,c1] at h;have h:cond (!decide (c=0)) (some (([]:A3 CV),c)) _=some (S,0):=h;rw[Bl h0] at h;exact absurd (congrArg Prod.snd<|E5 h) h0
def aaE{a b:N3}:Ia a b↔EA (rn a) (rn b):=by
 unfold Ia EA rn;simp only[Rat.intCast_lt_intCast,ZC]
def al4{M:A3 H3}(I:Da S M){f g:CV}(mf:f∈S)(mg:g∈S)(e:f.1=g.1):f=g:=by
 have:∀{S:A3 CV},S.Pairwise (λf g=>f.1≠g.1)->f∈S->g∈S->f=g:=λ{S} h=>by
  induction S with
  |nil=>intro m;cases m
  |cons x S ih=>
   intro m1 m2;obtain⟨h1,h2⟩:=HE.1 h;rcases Ai.1 m1 with e1|m1<;>rcases Ai.1 m2 with e2|m2
   ·rw[e1,e2]
   ·exact absurd (by rw[<-e1,e])<|h1 g m2
   ·exact absurd (by rw[<-e2,e])<|h1 f m1
   ·exact ih h2 m1 m2
 exact this I.Ph mf mg
def ah5{l:FN}(o:OkB l S)(Ib:l.Pairwise Jz)(hl:l.length<=32):Yd (λT=>T.Perm S/\T.map (·.1)=l.map rh) (Uo S):=by
 obtain⟨ok,I,all⟩:=o;have SL:S.length<=32:=by have:=I.len;rw[Bp] at this;omega
 have ne:S≠[]:=λe=>by
  obtain⟨k,mk,_⟩:=I.bdd _ Vr;have:=all k mk;rw[e] at this;cases this
 have he:List.isEmpty S=false:=by cases S with
  |nil=>exact absurd rfl ne
  |cons _ _=>rfl
 have hin:∀f∈S,∃h∈l,rh h=f.1:=λf mf=>Bv.1 (I.Fb f mf).1
 have one:∀{f:CV} {h:C3},h∈l->rh h=f.1->Sp f=some h.1:=λ{f h} mh e=>by
  unfold Sp;rw[<-e,(ok h mh).text];rfl
 have hO:Ln (λx:CV×CV=>bL x.1 x.2<|λx=>Sp x) (λf g=>EA f.1.1 g.1.1) S:=⟨λx mx y my=>by
  obtain⟨h,mh,e⟩:=hin x mx;obtain⟨g,mg,e'⟩:=hin y my;obtain⟨v,v1,v2⟩:=xn h.1 g.1;refine⟨v,?_,?_⟩
  ·show bd (Sp x) (λx1=>bd (Sp y) λx3=>bd (RB x1 x3) λx5=>some x5)=_;rw[one mh e,D4,one mg e',D4,v1];rfl
  ·rw[v2,aaE,<-e,<-e'];exact Iff.rfl,λx _=>NI _,λx _ y _ z _=>Wa,λx mx y my=>by
  rcases pt x.1.1 y.1.1 with e|h
  ·exact .inl<|al4 I mx my<|ajE I mx my e
  ·exact .inr h⟩
 obtain⟨T,t1,t2,t3⟩:=pK hO A4;have nd:S.Nodup:=I.Ph.imp λh e=>h (by rw[e])
 have pw:T.Pairwise λf g=>EA f.1.1 g.1.1:=WH (λ{a b} ma mb h=>h.1.resolve_left h.2)<|t3.and<|t2.nodup_iff.2 nd
 unfold Uo jq jv;rw[he];refine A5 (x:=S) (by rw[B8,ane A4 A4];rfl) (A5 (x:=T) (by rw[t1];rfl)<|AU ⟨t2,?_⟩);refine YT (R:=λh k:H3=>EA h.1 k.1) (Mm.2 pw) (Mm.2<|Ib.imp λh=>aaE.1 h) (λx _ y _ a c=>NI _<|Wa a c) λk=>?_
 constructor
 ·intro mk;obtain⟨f,mf,rfl⟩:=Bv.1 mk;exact(I.Fb f<|t2.mem_iff.1 mf).1
 ·intro mk;obtain⟨f,mf,e⟩:=Bv.1<|all k mk
  exact Bv.2 ⟨f,t2.mem_iff.2 mf,e⟩
def oG(h:∀p∈l,Bu n p)(hn:n<=900000)(hl:l.length<=1000000):VA l=some (bif l.any H5 then([],4) else(l.map Ap,0)):=by
 refine G5 ?_;unfold VA;refine Cz l (λ(s:A3 T3) i=>(s,i)) (λA s=>s=A.map Ap/\A.any H5=false) (λA x C s k hA hP next=>?_) (λs k hP=>?_) (s0:=[]) ⟨rfl,rfl⟩ A4
 ·dsimp only;rw[DD hA,Bf];have al:=Dt hA;refine A5 (C8 hA)<|A5 (ald (h x<|at_mem hA) hn) ?_
  cases hb:H5 x
  ·rw[B8];refine A5 (anr hb) (A5 (app_1 A4 (by rw[hP.1,Bp];omega))<|A5 (Cb hA A4)<|next _ ⟨?_,?_⟩)
   ·rw[hP.1];simp
   ·rw[Vz,hP.2];simp[hb]
  ·rw[Bf];refine AU ?_;have:l.any H5=true:=gU.2 ⟨x,at_mem hA,hb⟩;rw[this];rfl
 ·dsimp only;rw[DB,B8];refine AU ?_;rw[hP.1,hP.2];rfl
def o4{x:Rat}(h:lv n x)(hn:n+1<=600):KE x=false:=by
 have b:=aA (Mr h) A4;unfold KE;rw[Bl A4,Bl A4];rfl
def ahf{v:Q3}(h:Bu n v)(hn:n+1<=600):H5 v=false:=by
 unfold H5;rw[o4 h.1 hn,o4 h.2.1 hn,o4 h.2.2 hn];rfl
def xo(h:∀p∈l,Bu n p)(hn:n+1<=600):l.any H5=false:=by
 rw[gW];intro x mx;rw[ahf (h x mx) hn];simp
end
section
variable{l:FN}{S:List CV}(o:OkB l S)(hl:l.length<=10)
include o hl
variable{f:CV}
theorem UG(mf:f∈S):f.2.length<=10:=by
 obtain⟨ok,I,all⟩:=o;obtain⟨f1,f2,f3,f4⟩:=I.Fb f mf;have:=ak1 I.bdd f1 (I.nz _ f1) f2 f3 f4;rw[Bp] at this;omega
theorem ij(mf:f∈S):∀x∈f.2,Bu 70 x:=λx mx=>Zh o.1 (((o.2.1.Fb f mf).2.2.2 x).1 mx).1
theorem aim:Yd (λr=>r.Pairwise EA/\∀z,z∈r↔C1 (l.map rh) z) (Uh S):=by
 have SL:S.length<=10:=by have:=o.2.1.len;rw[Bp] at this;omega
 unfold Uh;refine Cz S (λ(s:A3 Q3) i=>(s,i)) (λA s=>s=A.flatMap (·.2)) (λA f C s k hA hP next=>?_) (λs k hP=>?_) (s0:=[]) rfl A4
 ·dsimp only;rw[DD hA,Bf];have al:=Dt hA;have sl:s.length<=A.length*10:=by rw[hP];exact qR λx mx=>UG o hl (by rw[hA];exact Mn _ mx)
  have fl:=UG o hl<|at_mem hA
  refine A5 (C8 hA)<|A5 (jI A4 A4)<|A5 (Cb hA A4)<|next _ ?_
  rw[hP,List.flatMap_append];simp
 ·dsimp only;rw[DB,B8];have sl:s.length<=S.length*10:=by rw[hP];exact qR λx mx=>UG o hl mx
  have mem:∀z,z∈s↔C1 (l.map rh) z:=λz=>by
   rw[hP,ZK];constructor
   ·rintro⟨f,mf,mz⟩;exact(((o.2.1.Fb f mf).2.2.2 z).1 mz).1
   ·intro v;obtain⟨f,mf,mz⟩:=o0 o.2.1 v;exact⟨f,mf,mz⟩
  obtain⟨r,r1,r2,r3⟩:=vn (n:=70) (λp mp=>Zh o.1<|(mem p).1 mp) A4 (l:=s) A4;exact A5 r1<|AU ⟨r2,λz=>(r3 z).trans<|mem z⟩
theorem aia(mf:f∈S):∃r,O1 f.2 f.1.1=some r/\Rnd f.1 f.2 r:=by
 obtain⟨ok,I,all⟩:=o;obtain⟨f1,f2,f3,f4⟩:=I.Fb f mf;have hf:=I.nz _ f1;have n10:=UG ⟨ok,I,all⟩ hl mf;have l70:=ij ⟨ok,I,all⟩ hl mf;have ln:Bu 70 f.1.1:=by
  obtain⟨h,mh,e⟩:=Bv.1 f1;rw[<-e];exact(ok h mh).lvn A4
 obtain⟨p,s,r1,r2,r3,r4,r5⟩:=vY (n:=70) hf (L:=l.map rh) (l:=f.2) (λp mp=>⟨((f4 p).1 mp).1,((f4 p).1 mp).2,l70 p mp⟩) ln A4 A4 A4 λr hr=>by
  have:=Kp (f2.nodup f3) hr;omega
 exact⟨_,r1,⟨p,s,rfl,r4,r5⟩,r3⟩
end
section
variable{S:A3 CV}{M N:A3 H3}
structure jm(l:FN)(S:A3 CV)(s:NY):Prop where
 ok:∀h∈l,D8 h
 I:Da S (l.map rh)
 R:∃Z,RS s (l.map rh) Z
def agM{l:FN}(h:OkB l S)(hl:l.length<=50):Yd (λs=>jm l S s) (RC l):=
 (afL h.1 hl h.2.1).imp λs hs=>⟨h.1,h.2.1,hs⟩
def jm.mem{l:FN}{s:NY}(P:jm l S s)(h:C3):h∈s.1↔h∈l/\rh h∈S.map (·.1):=by
 obtain⟨Z,R⟩:=P.R;constructor
 ·intro mh;have mr:rh h∈s.1.map rh:=Bv.2 ⟨h,mh,rfl⟩;obtain⟨g,mg,e⟩:=Bv.1 ((R.fac<|rh h).1 mr).1;rw[<-WV (P.ok g mg) (R.ok h mh) e];exact⟨mg,by rw[e];exact(R.XB P.I _).1 mr⟩
 ·rintro⟨mh,mf⟩;obtain⟨g,mg,e⟩:=Bv.1<|(R.XB P.I _).2 mf
  rw[<-WV (R.ok g mg) (P.ok h mh) e];exact mg
def wy(h:∀k,k∈N↔k∈M)(p:Q3):C1 N p↔C1 M p:=
 ⟨λv=>⟨λk mk=>v.1 k<|(h k).2 mk,λd hd=>v.2 d λk mk=>hd k<|(h k).1 mk⟩,λv=>⟨λk mk=>v.1 k<|(h k).1 mk,λd hd=>v.2 d λk mk=>hd k<|(h k).2 mk⟩⟩
def Da.congr(I:Da S M)(h:∀k,k∈N↔k∈M):Da S N:=by
 refine⟨λd hd=>?_,?_,λk mk=>I.nz k<|(h k).1 mk,λa ma b mb=>I.norm a ((h a).1 ma) b<|(h b).1 mb,λf mf=>?_,I.Ph,λp hp ht=>?_⟩
 ·obtain⟨k,mk,e⟩:=I.bdd d hd;exact⟨k,(h k).2 mk,e⟩
 ·obtain⟨o,ho⟩:=I.int;exact⟨o,λk mk=>ho k<|(h k).1 mk⟩
 ·obtain⟨a,b,c,d⟩:=I.Fb f mf;exact⟨(h _).2 a,b,c,λp=>by rw[d,wy h]⟩
 ·obtain⟨k,mk,t⟩:=ht;exact I.cover p (λg mg=>hp g<|(h g).2 mg) ⟨k,(h k).1 mk,t⟩
def RS.congr{s:NY}{Z:ZL}(R:RS s M Z)(h:∀k,k∈N↔k∈M):RS s N Z:=
 ⟨R.ok,R.Ib,λk=>by rw[R.fac,h],R.cor,R.on,R.nd,λp=>by rw[R.mem,wy h],R.ons⟩
end
section
variable{l:FN}{S:List CV}(o:OkB l S)(hl:l.length<=10)
include o hl
theorem yJ{f:CV}(mf:f∈S){r:A3 Q3}(h:Rnd f.1 f.2 r):Fx f.2=Fx r/\3<=r.length/\r.length<=10/\∀x∈r,Bu 70 x:=by
 obtain⟨f1,f2,f3,f4⟩:=o.2.1.Fb f mf;have n10:=UG o hl mf;have l70:=ij o hl mf;have nd:=f2.nodup f3;have a:=Kp nd λx mx=>(h.mem x).2 mx
 have b:=Kp h.len λx mx=>(h.mem x).1 mx
 refine⟨?_,A4,A4,λx mx=>l70 x<|(h.mem x).1 mx⟩;have hd:=h.len;obtain⟨⟨p,s,rfl,h1,h2⟩,h3⟩:=h;have cv:F5 f.1.1 (p::s):=xM (o.2.1.nz _ f1) (L:=l.map rh) (λx mx=>(f4 x).1<|(h3 x).1 mx) h2;unfold Fx;rw[alD cv f2 f3 hd h3]
end
section
variable{l:FN}{S:List CV}(o:OkB l S)(hl:l.length<=10)
include o hl
variable(hc:KF l=some (S,0)){T:List CV}(t1:Uo S=some T)(t2:T.Perm S)
include hc t1 t2
theorem ajG:Yd (λr=>r.2=0/\∃W:A3 (CV×A3 Q3),W.map (·.1)=T/\r.1=W.map (λw=>w.2.map Ap)/\∀w∈W,Rnd w.1.1 w.1.2 w.2) (V4 l):=by
 have SL:S.length<=10:=by have:=o.2.1.len;rw[Bp] at this;omega
 have TL:=t2.length_eq;unfold V4;refine A5 hc ?_;rw[show(!decide ((0:Int)=0))=false from rfl,B8];refine A5 t1 ?_;refine Cz T (λ(s:A3 (A3 T3)) i=>(s,i)) (λA s=>∃W:A3 (CV×A3 Q3),W.map (·.1)=A/\s=W.map (λw=>w.2.map Ap)/\∀w∈W,Rnd w.1.1 w.1.2 w.2) (λA f C s k hA hP next=>?_) (λs k hP=>?_) (s0:=[]) ⟨[],rfl,rfl,AS⟩ A4
 ·dsimp only;rw[DD hA,Bf];have al:=Dt hA;have mf:=t2.mem_iff.1<|at_mem hA
  obtain⟨W,rfl,rfl,w3⟩:=hP;obtain⟨r,r1,r2⟩:=aia o hl mf;obtain⟨_,a1,a2,a3⟩:=yJ o hl mf r2;have tx:=oG a3 A4 A4;rw[xo a3 A4,B8] at tx;rw[Bp] at al;refine A5 (C8 hA)<|A5 r1<|A5 tx ?_
  rw[show(!decide ((0:Int)=0))=false from rfl,B8];exact A5 (app_1 A4 (by rw[Bp];omega))<|A5 (Cb hA A4)<|next _ ⟨W++[(f,r)],AS,AS,Yh w3 r2⟩
 ·dsimp only;rw[DB,B8];exact AU ⟨rfl,hP⟩
theorem alU:T0 l=some (bif (T.map λf=>Fx f.2).any H5 then([],4) else((T.map λf=>Fx f.2).map Ap,0)):=by
 have SL:S.length<=10:=by have:=o.2.1.len;rw[Bp] at this;omega
 have TL:=t2.length_eq;refine G5 ?_;unfold T0;refine A5 hc ?_;rw[show(!decide ((0:Int)=0))=false from rfl,B8];refine A5 t1 ?_;refine Cz T (λ(s:A3 Q3) i=>(s,i)) (λA s=>s=A.map λf=>Fx f.2) (λA f C s k hA hP next=>?_) (λs k hP=>?_) (s0:=[]) rfl A4
 ·dsimp only;rw[DD hA,Bf];have al:=Dt hA;have mf:=t2.mem_iff.1<|at_mem hA
  exact A5 (C8 hA) (A5 (aii (ij o hl mf) (by have:=UG o hl mf;omega)) (A5 (app_1 A4 (by rw[hP,Bp];omega)) (A5 (Cb hA A4) (next _ (by rw[hP];simp)))))
 ·dsimp only;rw[DB,B8];rw[hP];have lv:∀p∈T.map λf=>Fx f.2,Bu 16000 p:=λp mp=>by
   obtain⟨f,mf,rfl⟩:=Bv.1 mp;have mf:=t2.mem_iff.1 mf;exact(yK (ij o hl mf) (o.2.1.Fb f mf).2.2.1 (by have:=UG o hl mf;omega)).2
  exact A5 (oG lv A4 (by rw[Bp];omega))<|AU rfl
end
section
variable{l:FN}
def vX{l:A3 T3}(hl:l.length<=1000000):Ui l l=some true:=by
 refine G5 ?_;unfold Ui;rw[B0 rfl,ZB,B8];refine Cz l (λ(_:Unit) i=>i) (λA _=>True) (λA x C u k hA _ next=>?_) (λu k _=>?_) (s0:=()) trivial A4
 ·rw[DD hA,Bf];refine A5 (C8 hA)<|A5 (C8 hA) ?_
  rw[B0 rfl,ZB,B8];exact A5 (Cb hA A4)<|next () trivial
 ·rw[DB,B8];exact AU rfl
theorem aiD(hs:Small l):Yd (λ_=>True) (bR [l]):=by
 obtain⟨k,_,k2,_⟩:=fE hs;have nil:∀{A C:A3 FN} {x:FN},[l]=A++x::C->A=[]/\x=l:=λ{A C x} h=>by
  cases A with
  |nil=>simp at h;exact⟨rfl,h.1.symm⟩
  |cons a A=>simp at h
 unfold bR;refine Ad (λ_=>AU trivial) λ_=>?_
 refine Cz [l] (λ(_:Unit) i=>i) (λA _=>True) (λA x C s k hA hP next=>?_) (λs k hP=>?_) (s0:=()) trivial AS
 ·rw[DD hA,Bf];obtain⟨_,rfl⟩:=nil hA;exact A5 (C8 hA)<|A5 k2<|Ad (λ_=>AU trivial) λ_=>A5 (Cb hA AS)<|next () trivial
 ·rw[DB,B8];refine Cz [l] (λ(_:Unit) i=>i) (λA _=>True) (λA x C s k hA hP next=>?_) (λs k hP=>?_) (s0:=()) trivial AS
  ·rw[DD hA,Bf];obtain⟨rfl,_⟩:=nil hA;refine Cz ([]:A3 FN) (λ(_:Unit) i=>i) (λA _=>True) (λA x C s k hA hP next=>?_) (λs k hP=>?_) (s0:=()) trivial AS
   ·grind
   ·rw[show decide ((([]:A3 FN).length:Int)<(([]:A3 FN).length:Int))=false from rfl,B8];exact A5 (Cb hA AS)<|next () trivial
  ·rw[DB,B8];exact AU trivial
def ajD(hs:Small l):Yd (λ_=>True) (dm [l] 1 5):=by
 unfold dm;refine Az (ajl (n:=1) A4) λb hb=>Ad (λ_=>AU trivial) λ_=>?_
 refine Cz [l] (λ(_:Unit) i=>i) (λA _=>True) (λA x C s k hA hP next=>?_) (λs k hP=>?_) (s0:=()) trivial AS
 ·rw[DD hA,Bf];have e:x=l:=by simpa using at_mem hA
  subst e;obtain⟨h1,h2,h3⟩:=hs;refine Cz x (λ(_:Unit) i=>i) (λB _=>True) (λB y D s k2 hB hU HG=>?_) (λs k2 hU=>?_) (s0:=()) trivial A4
  ·refine A5 (C8 hA) ?_;rw[DD hB,Bf];exact A5 (C8 hA)<|A5 (C8 hB)<|Az (ahM (h1 y<|at_mem hB)<|h3 y<|at_mem hB) λr _=>Ad (λ_=>AU trivial) λ_=>A5 (Cb hB A4)<|HG () trivial
  ·refine A5 (C8 hA) ?_;rw[DB,B8];exact A5 (Cb hA AS)<|next () trivial
 ·rw[DB,B8];exact Az (aiD hs) λ_ _=>AU trivial
def afX(hi:∀h∈l,in3 h.1):Yd (λr=>r=false->32<l.length\/Small l) (XV l):=by
 unfold XV;refine Ad (λhc=>?_) λhc=>?_
 ·have hc:=An hc;have KE:32<l.length:=A4;obtain⟨b,b1,_⟩:=lN (l:=l) (n:=35) (k:=14) A4;exact Hb (λ_=>⟨b,b1,AU λ_=> .inl KE⟩) λ_=>AU λ_=> .inl KE
 ·refine Az (lN (l:=l) (n:=10) (k:=14) A4) λb hb=>?_
  cases b with
  |false=>exact AU λc=>by cases c
  |true=>
   have hb:=hb rfl;have hs:Small l:=⟨hi,hb⟩;obtain⟨k,_,k2,_⟩:=fE hs;obtain⟨f,f1,_⟩:=ajD hs;refine Hb (λ_=>⟨k.2,k2,?_⟩) λ_=>?_
   ·exact Hb (λ_=>⟨f,f1,AU λ_=> .inr hs⟩) λ_=>AU λ_=> .inr hs
   ·exact Hb (λ_=>⟨f,f1,AU λ_=> .inr hs⟩) λ_=>AU λ_=> .inr hs
theorem ahO{k:A3 CV×Int}(h:KF l=some k)(h0:k.2≠0):Uv l=some ([],k.2)/\V4 l=some ([],k.2)/\T0 l=some ([],k.2):=by
 have d:(!decide (k.2=0))=true:=AY;unfold Uv V4 T0;rw[h,D4,D4,D4,d];exact⟨rfl,rfl,rfl⟩
def agC{S:A3 CV}(o:OkB l S)(Ib:l.Pairwise Jz)(hl:l.length<=32):Yd (λs=>s.1=l/\∃Z,RS s (l.map rh) Z) (RC l):=
 (agM o A4).imp λs P=>by
  refine⟨?_,P.R⟩;obtain⟨Z,R⟩:=P.R;refine YT R.Ib Ib (λx _ y _ a c=>qY _<|rC a c) λh=>?_
  rw[P.mem];exact⟨λm=>m.1,λm=>⟨m,o.2.2 _<|Bv.2 ⟨h,m,rfl⟩⟩⟩
theorem adM(ha:RJ=some true)(hs:Small l){S:A3 CV}(hc:KF l=some (S,0))(hr:Nz l=some 0)(hg:XV l=some false):On l=some true:=by
 obtain⟨o,Ib⟩:=agp hs hc;have l10:=hs.2.1;have sA:(l.map rh).length=l.length:=Bp _;obtain⟨T,t1,t2,t3⟩:=ah5 o Ib A4;obtain⟨fr,f1,f2,W,w1,w2,w3⟩:=ajG o l10 hc t1 t2;have ar:=alU o l10 hc t1 t2;obtain⟨s,s1,s2,Z,R⟩:=agC o Ib A4;obtain⟨P,p1,p2,p3⟩:=aim o l10;have p70:∀x∈P,Bu 70 x:=λx mx=>Zh o.1<|(p3 x).1 mx
 have pl:P.length<=1000:=by
  have:=fU (p2.imp λh=>Zw h) λx mx=>(p3 x).1 mx
  have:=GB (sA▸l10)<|GB (sA▸l10)<|sA▸l10
  omega
 have cr:Uv l=some (P.map Ap,0):=by
  unfold Uv;have tx:=oG p70 A4 A4;rw[xo p70 A4,B8] at tx;rw[hc,D4,show(!decide ((0:Int)=0))=false from rfl,B8,p1,D4,tx];rfl
 have rc:bo l=some (P.map Ap):=by
  refine G5 ?_;unfold bo;refine A5 s1 ?_;have e:s.2.1=(Z.map (·.1)).map Ap:=by rw[R.cor,QH];rfl
  rw[e];have zl:=R.abq A4;refine Az (wD (n:=70) A4 (λp mp=>Zh o.1<|(R.mem p).1 mp) R.nd (by rw[Bp];omega)) λr ⟨r',e,r1,r2⟩=>AU ?_
  have:r'=P:=YT r1 p2 (λx _ y _ a c=>NI _<|Wa a c) λz=>by rw[r2,p3,R.mem]
  rw[e,this]
 have WT:W.map (λw=>w.1.1)=l.map rh:=by rw[<-t3,<-w1,QH];rfl
 have WL:W.length=l.length:=AY;have wS:∀w∈W,w.1∈S:=λw mw=>t2.mem_iff.1 (by rw[<-w1];exact Bv.2 ⟨w,mw,rfl⟩)
 have wa:∀w∈W,Fx w.1.2=Fx w.2/\RD (w.2.map Ap)=some (Ap<|Fx w.2)/\Bu 16000 (Fx w.2)/\w.2.length<=10:=λw mw=>by
  obtain⟨a,b,c,d⟩:=yJ o l10 (wS w mw)<|w3 w mw
  have:=yK d b A4;exact⟨a,this.1,this.2,c⟩
 have TA:(T.map λf=>Fx f.2)=W.map λw=>Fx w.2:=by
  rw[<-w1,QH];exact gn λw mw=>(wa w mw).1
 rw[TA] at ar;obtain⟨q,c,ar,q0,q1⟩:∃(q:A3 T3) (c:Int),T0 l=some (q,c)/\((W.map λw=>Fx w.2).any H5=false->q=(W.map λw=>Fx w.2).map Ap/\c=0)/\((W.map λw=>Fx w.2).any H5=true->q=[]/\c=4):=AY;have fac:∀{A C:A3 (CV×A3 Q3)} {w:CV×A3 Q3},W=A++w::C->T1 s (A.length:Int)=some (w.2.map Ap):=λ{A C w} hA=>by
  have mw:=at_mem hA;have g:(l.map rh)[A.length]? =some w.1.1:=AY;rw[Gg] at g;obtain⟨h,g1,g2⟩:=Option.map_eq_some_iff.1 g;obtain⟨r,r1,C',r',e,hr,hC⟩:=aif R A4 (λp hp=>Zh o.1 hp) (h:=h) (m:=A.length) (by rw[s2];exact g1);rw[g2] at hr hC;have hr:Rnd w.1.1 w.1.2 r':=⟨hr.ex,λz=>by rw[hr.mem,hC,(o.2.1.Fb w.1<|wS w mw).2.2.2]⟩;rw[r1,e,hr.same<|w3 w mw]
 refine G5 ?_;unfold On;refine A5 hg ?_;rw[B8];refine A5 cr<|A5 f1<|A5 ar<|A5 hr ?_
 rw[show(!decide ((0:Int)=0))=false from rfl,B8];refine A5 s1 ?_;rw[<-WL,ha,f2,w2]
 generalize hB:(W.map λw=>Fx w.2)=AL at q0 q1
 have AW:AL.length=W.length:=AY;refine Cz W (λ(v:Int) i=>(v,i)) (λA v=>0<=v/\v<=4*A.length/\(v=0↔(A.map λw=>Fx w.2).any H5=false)) (λA w C v k hA hP next=>?_) (λv k hP=>?_) (s0:=0) ⟨A4,AS,AS⟩ A4
 ·dsimp only;rw[DD hA,Bf];have al:=Dt hA;obtain⟨_,a1,a2,_⟩:=wa w<|at_mem hA
  refine A5 (fac hA)<|A5 a1<|A5 (al7 a2 A4) ?_
  obtain⟨v1,v2,v3⟩:=hP;have vb:v+(bif H5 (Fx w.2) then 4 else 0)=v\/v+(bif H5 (Fx w.2) then 4 else 0)=v+4:=AY;refine A5 BC (A5 (Cb hA A4) (next _ ⟨A4,by rw[ED,Ij];omega,?_⟩));rw[Mg,Vz,Jr,<-v3];cases hb:H5 (Fx w.2)
  ·grind
  ·grind
 ·dsimp only;rw[DB,B8];obtain⟨v1,v2,v3⟩:=hP;rw[hB] at v3;refine A5 (x:=0) rfl ?_;rw[show gd (!decide ((0:Int)=0)) false=true from rfl,CU rfl];refine A5 rc ?_;rw[CU rfl];refine A5 (vX (by rw[Bp];omega)) ?_;have wl:decide (((W.map λw=>w.2.map Ap).length:Int)=(W.length:Int))=true:=B0 (by rw[Bp]);rw[wl];have loop:(v=0->q=AL.map Ap)->Yd (λr=>r=true) (B4 (λk44 (Hg:Int)=>
    cond (decide<|Hg<(W.length:Int)) (
     bd (T1 s Hg) λHy=>
     bd (AA (W.map λw=>w.2.map Ap) Hg) λHI=>
     bd (Ui HI Hy) λGI=>
     Aq ((gd (!GI) false&&gd (decide<|v=0) true)) (([],[],[])) (AA q Hg) λGJ=>
     Aq ((gd (!GI) false&&gd (decide<|v=0) true)) (([],[],[])) (RD Hy) λHK=>
     cond (((!GI)||((decide<|v=0)&&(!decide (GJ=HK))))) (
      some false
     ) (
      bd (AG<|Hg+1) λMz=>
      k44 Mz
     )
    ) (
     bd (some true) λN0=>
     some N0
    )
   ) 0):=λhq=>by
   refine Cz W (λ(_:Unit) i=>i) (λA _=>True) (λA w C u k hA _ next=>?_) (λu k _=>?_) (s0:=()) trivial A4
   ·rw[DD hA,Bf];have al:=Dt hA;obtain⟨_,a1,_,a3⟩:=wa w<|at_mem hA
    refine A5 (fac hA) (A5 (NX (λw:CV×A3 Q3=>w.2.map Ap) hA) (A5 (vX (by rw[Bp];omega)) ?_));by_cases hv:v=0
    ·rw[B0 hv,show(gd (!true) false&&gd true true)=true from rfl,CU rfl];have iq:AA q (A.length:Int)=some (Ap<|Fx w.2):=by
      rw[hq hv,<-hB,QH];exact NX (Ap∘λw:CV×A3 Q3=>Fx w.2) hA
     refine A5 iq ?_;rw[CU rfl];refine A5 a1 ?_;rw[B0 rfl,show((!true)||(true&& !true))=false from rfl,B8];exact A5 (Cb hA A4)<|next () trivial
    ·rw[Bl hv,show(gd (!true) false&&gd false true)=false from rfl,EP rfl,EP rfl,Tn,show((!true)||false)=false from rfl,B8];exact A5 (Cb hA A4)<|next () trivial
   ·rw[DB,B8];exact AU rfl
  by_cases hv:v=0
  ·grind
  ·have e:AL.any H5=true:=by
    cases h:AL.any H5
    ·grind
    ·rfl
   obtain⟨e1,e2⟩:=q1 e;have l1:=loop λh=>absurd h hv
   have ql:decide ((q.length:Int)=0)=true:=B0 (by rw[e1];rfl);rw[Bl hv] at l1⊢;have cnd:∀x y:Bool,((((((!decide ((0:Int)=0))||(!true))||(!true))||(false&&(x||y)))||((!false)&&((!true)||(!true)))))=false:=λx y=>by cases x<;>cases y<;>rfl
   rw[ql,B0 e2,cnd,B8];exact l1
theorem ada(ha:RJ=some true)(l:FN)(hi:∀h∈l,in3 h.1):On l=some true:=by
 obtain⟨g,g1,g2⟩:=afX hi;cases g with
 |true=>
  unfold On;rw[g1,ha];rfl
 |false=>
  have err:∀{k:A3 CV×Int},KF l=some k->Nz l=some k.2->k.2≠0->On l=some true:=λ{k} k1 k2 h0=>by
   obtain⟨e1,e2,e3⟩:=ahO k1 h0;unfold On;rw[g1,e1,e2,e3,k2,ha];show cond (!decide (k.2=0)) (Aq (gd (((true&&decide (k.2=k.2))&&decide (k.2=k.2))&&decide (k.2=k.2)) true) false (some true) λBi=>some<|(((true&&decide (k.2=k.2))&&decide (k.2=k.2))&&decide (k.2=k.2))&&Bi) _=_;rw[Bl h0,B0 rfl];rfl
  rcases g2 rfl with h|hs
  ·refine err (k:=([],5)) ?_ ?_ dcZ
   ·unfold KF;rw[B0 (show(32:Int)<(l.length:Int) by omega)];rfl
   ·unfold Nz;rw[B0 (show(32:Int)<(l.length:Int) by omega)];rfl
  ·obtain⟨k,k1,k2,_⟩:=fE hs;by_cases h0:k.2=0
   ·obtain⟨S,c⟩:=k;have h0:c=0:=h0;subst h0;exact adM ha hs k1 k2 g1
   ·grind
def aaX:∀{u t:AB},(∀x∈u,x≠47)->sp (u++t)=(u++(sp t).1,(sp t).2.1,(sp t).2.2)
 |[],t,_=>rfl
 |b::u,t,h=>by
  rw[QL];unfold sp;have:(b==47)=false:=PN.2<|h b Dq
  rw[this,B8,aaX λx mx=>h x<|Bq _ mx];cases t<;>rfl
def wP{q:Rat}(h:bq q 14):MX (BL q)=some q:=by
 have e:BL q=bif decide (q.num<0) then 45::(Am q.num.natAbs++DO q) else Am q.num.natAbs++DO q:=by
  unfold BL Bo DO;cases decide (q.num<0)<;>cases decide (q.den=1)<;>simp
 have hl:=aA h A4;have tl:(DO q).length<=15:=by
  unfold DO;cases decide (q.den=1)
  ·simp;omega
  ·simp
 obtain⟨n1,n2⟩:=Kr q.num.natAbs;obtain⟨d1,d2⟩:=Kr q.den;have sc:sp (Am q.num.natAbs++DO q)=(Am q.num.natAbs,(bif decide (q.den=1) then [] else Am q.den),!decide (q.den=1)):=by
  rw[aaX<|Ya _];unfold DO;cases decide (q.den=1)
  ·show(Am q.num.natAbs++[],Am q.den,true)=_;rw[J6];rfl
  ·show(Am q.num.natAbs++[],[],false)=_;rw[J6];rfl
 have rd:Hw (bif decide (q.num<0) then 45::Am q.num.natAbs else Am q.num.natAbs)=some q.num:=by
  cases hd:decide (q.num<0)
  ·have:=BQ hd;rw[B8,Vb n1 A4,n2]
   congr 1;omega
  ·have:=An hd;rw[Bf,xu n1 A4,n2]
   congr 1;omega
 rw[e];unfold MX;rw[oh (by rw[ED];omega),sc];cases hd:decide (q.den=1)
 ·have h0:=BQ hd;have dn:=q.den_pos;obtain⟨r,m1,m2,m3⟩:=aan (a:=q.num) (d:=q.den) A4 q.reduced;have er:r=q:=Rat.ext m2 m3;show bd (Hw (bif decide (q.num<0) then 45::Am q.num.natAbs else Am q.num.natAbs)) _=_;rw[rd];show bd (Hw<|Am q.den) _=_;rw[Vb d1 A4,d2];show bd (mkq q.num (q.den:Int)) _=_;rw[m1,er];rfl
 ·have h0:=An hd;show bd (Hw (bif decide (q.num<0) then 45::Am q.num.natAbs else Am q.num.natAbs)) _=_;rw[rd];show some (q.num:Rat)=some q
  congr 1
  exact Rat.ext (PL _) (by rw[Rw,h0])
def arx(h:C3):C3:=((-h.1.1,-h.1.2.1,-h.1.2.2),BL<| -rq h.2)
def oZ{x:Int}(h:Ek x=false):Ek (-x)=false:=by
 have:=PO h;unfold Ek;rw[Bl A4,Bl A4];rfl
def D8.HN{h:C3}(o:D8 h):D8 (arx h):=by
 have b:=abF o.num.2.1;have e:rq (BL<| -rq h.2)= -rq h.2:=by
  show(MX<|BL<| -rq h.2).getD 0=_;rw[wP b];rfl
 refine⟨?_,oZ o.x,oZ o.y,oZ o.z,?_⟩
 ·show isNum (BL<| -rq h.2) (rq<|BL<| -rq h.2);rw[e];exact⟨rfl,b,wP b⟩
 ·show Nat.gcd (Nat.gcd (-h.1.1).natAbs (-h.1.2.1).natAbs) (-h.1.2.2).natAbs=1;rw[Tm,Tm,Tm];exact o.g
abbrev PS:=FN×A3 CV×NY
def Prs(n:Nat)(v:PS):Prop:=jm v.1 v.2.1 v.2.2/\v.1.length<=n
def Prs.mono{m n:Nat}{v:PS}(h:Prs m v)(hn:m<=n):Prs n v:=⟨h.1,Ca h.2 hn⟩
structure GoP(n:Nat)(l:FN)(A:FN)(t:PS×A3 PS):Prop where
 now:Prs (n+A.length) t.1
 mem:∀k,k∈t.1.1↔k∈A\/k∈l
 out:∀v∈t.2,Prs (n+A.length) v
 len:t.2.length<=A.length
structure Sd(l:A3 FN)(V:A3 PS):Prop where
 eq:l=V.map (·.1)
 ok:∀v∈V,OkB v.1 v.2.1/\v.1.Pairwise Jz/\v.1.length<=10
 pr:∀v∈V,Prs 10 v
def Sd.len{l:A3 FN}{V:A3 PS}(s:Sd l V):l.length=V.length:=by rw[s.eq,Bp]
def ajX{x:Rat}(h:bq x 14):(BL x).length<=100:=by have:=nR h A4;omega
def Prs.few{v:PS}{n:Nat}(P:Prs n v)(hn:n<=31):v.2.2.1.length<=32/\∀h∈v.2.2.1,h.2.length<=100:=by
 obtain⟨⟨_,_,_,R⟩,p2⟩:=P;have rl:=R.len;rw[Bp] at rl;refine⟨A4,λh mh=>?_⟩;have o:=R.ok h mh;rw[o.txt];exact ajX o.num.2.1
abbrev J1:A3 C3:=[((-1,0,0),[48]),((0,-1,0),[48]),((0,0,-1),[48]),((0,0,1),[52]),((0,1,0),[51]),((1,0,0),[50])]
abbrev bxC:A3 C3:=[((-1,0,0),[45,49]),((0,-1,0),[45,49]),((0,0,-1),[45,49]),((0,0,1),[53]),((0,1,0),[52]),((1,0,0),[51])]
abbrev bxD:A3 C3:=[((-1,0,0),[45,50]),((0,-1,0),[48]),((0,0,-1),[48]),((0,0,1),[49]),((0,1,0),[49]),((1,0,0),[51])]
def asI:kq [J1]=some ([50,52],0):=A6
def aso:mO [J1] [bxC]=some ([[((-1,0,0),[45,49]),((0,-1,0),[45,49]),((0,0,-1),[45,49]),((0,0,1),[52]),((0,1,0),[51]),((1,0,0),[50])]],0):=A6
def asP:lW [J1] [bxC]=some ([[((-1,0,0),[48]),((0,-1,0),[48]),((0,0,-1),[48]),((0,0,1),[52]),((0,1,0),[51]),((1,0,0),[49])],[((-1,0,0),[45,49]),((0,-1,0),[48]),((0,0,-1),[48]),((0,0,1),[52]),((0,1,0),[49]),((1,0,0),[50])],[((-1,0,0),[45,49]),((0,-1,0),[45,49]),((0,0,-1),[48]),((0,0,1),[49]),((0,1,0),[51]),((1,0,0),[50])]],0):=A6
def asZ:mN [J1] ((1,1,0),[51])=some ([[((-1,0,0),[48]),((0,-1,0),[48]),((0,0,-1),[48]),((0,0,1),[52]),((1,0,0),[50]),((1,1,0),[51])]],0):=A6
def asL:kZ [J1] ((1,1,0),[51])=some (([56],[56],[48]),0):=A6
def asK:kS [J1] [bxD]=some ([(((1,0,0),[50]),[49],[48],[48])],0):=A6
def asJ:lU [J1] [bxD]=some ([J1,bxD],0):=A6
def asN:Xa [J1] ([50],[49,47,50],[49,47,50])=some (0,0):=A6
def asM:Xa [J1,bxD] ([50],[49,47,50],[49,47,50])=some (1,0):=A6
def asQ:mD [([48],[48],[48]),([49],[48],[48]),([48],[49],[48]),([48],[48],[49])]=some ([((-1,0,0),[48]),((0,-1,0),[48]),((0,0,-1),[48]),((1,1,1),[49])],0):=A6
def asH:lV J1 ([48],[48],[49])=some ([((-1,0,0),[48]),((0,-1,0),[48]),((0,0,-1),[48]),((0,0,1),[53]),((0,1,0),[51]),((1,0,0),[50])],0):=A6
def asF:ku [J1]=some (([49],[51,47,50],[50]),0):=A6
def asO:Xn (J1.take 3)=some ([],13):=A6
def asR:Xn (J1++[((1,0,0),[48])])=some ([],12):=A6
def aj1:RJ=some true:=by
 refine G5 ?_;unfold RJ;refine A5 (x:=J1) rfl ?_;refine A5 (x:=bxC) rfl ?_;refine A5 (x:=bxD) rfl ?_;refine A5 asI ?_;refine A5 aso ?_;refine A5 asP ?_;refine A5 (x:=((1,1,0),[51])) rfl ?_;refine A5 asZ ?_;refine A5 (x:=((1,1,0),[51])) rfl ?_;refine A5 asL ?_;refine A5 asK ?_;refine A5 asJ ?_;refine A5 asN ?_;refine A5 asM ?_;refine A5 (x:=([48],[48],[48])) A6 ?_;refine A5 (x:=([49],[48],[48])) A6 ?_;refine A5 (x:=([48],[49],[48])) A6 ?_;refine A5 (x:=([48],[48],[49])) A6 ?_;refine A5 asQ ?_;refine A5 (x:=J1) rfl ?_;refine A5 (x:=([48],[48],[49])) A6 ?_;refine A5 asH ?_;refine A5 asF ?_;refine A5 (x:=J1) rfl ?_;refine A5 (x:=J1.take 3) rfl ?_;refine A5 asO ?_;refine A5 (x:=J1) rfl ?_;refine A5 (x:=J1) rfl ?_;refine A5 (x:=((1,0,0),[48])) rfl ?_;refine A5 (x:=J1++[((1,0,0),[48])]) rfl ?_;refine A5 asR ?_;exact⟨true,A6,rfl⟩
def adh(l:FN)(hi:∀h∈l,in3 h.1):On l=some true:=ada aj1 l hi
end
end Trn
