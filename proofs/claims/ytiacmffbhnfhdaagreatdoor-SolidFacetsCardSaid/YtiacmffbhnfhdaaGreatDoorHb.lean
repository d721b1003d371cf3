/-
  Part of the proof of SolidFacets.
-/
import Derived.Test.YtiacmffbhnfhdaaGreatDoorHa
set_option maxRecDepth 100000
set_option maxHeartbeats 20000000
set_option linter.all false
open Go Go.RowKit Go.Proofs Go.Proofs.Tryz
namespace Trn
section
variable{r:Int×A3 Int}{x y:Int}{s:Int×A3 Int}
theorem aiv{z:Int}(h:CT r z)(hz:z≠ -9223372036854775808):br r=some (bif Hd z then(z,true) else(z.sign,false)):=by
 unfold br
 congr 1
 rcases h with⟨h1,h2,h3⟩|⟨h0,h1,h2,h3,h4,h5⟩
 ·unfold DX at h3;have:Hd z=true:=by unfold Hd;rw[B0 h3.1,B0 h3.2];rfl
  rw[this,h1,h2];rfl
 ·have:Hd z=false:=by
   unfold Hd;rcases h1 with e|e
   ·grind
   ·grind
  rw[this];have hs:r.1=z.sign:=AY;have he:r.2.isEmpty=false:=AY;rw[hs,he];rfl
def pQ{q r:Int}(h0:0<y)(h:r+y*q=x)(h1:0<=r)(h2:r<y):q=x/y/\r=x%y:=by
 obtain⟨h3,h4⟩:=(Int.ediv_emod_unique h0).2 ⟨h,h1,h2⟩;exact⟨h3.symm,h4.symm⟩
def wR(h0:0<y):(0<=x->0<=x/y/\x/y<=x)/\(x<0->x<=x/y/\x/y<0):=by
 constructor
 ·intro h;exact⟨Kz h A4,Ry y h⟩
 ·intro h;refine⟨(Int.le_ediv_iff_mul_le h0).2 ?_,Int.ediv_neg_of_neg_of_pos h h0⟩;have:x*y<=x*1:=Int.mul_le_mul_of_nonpos_left A4 A4;omega
theorem wM(hr:CT r x)(hs:CT s y)(hx:Cn x=true)(hy:Cn y=true)(h0:0<y):Yd (λq=>CT q.1 (x/y)/\CT q.2 (x%y)) (Xd r s):=by
 unfold Xd;have hm0:=Ld x (show y≠0 by omega);have hm1:=L1 x h0;have hdm:=OW x y;refine Ad (λhc=>?_)<|λhc=>?_
 ·obtain⟨hc,h3⟩:=EH hc;obtain⟨h1,h2⟩:=EH hc;rw[W8] at h1 h2;rw[GW,Ik] at h3;rcases hr with⟨_,e1,i1⟩|⟨h0,_⟩
  ·rcases hs with⟨_,e2,i2⟩|⟨h0,_⟩
   ·rw[e1] at h3;rw[e1,e2];unfold DX at i1 i2;have t1:=Int.tmod_add_mul_tdiv x y;have hsm:=wR (x:=x) h0;have q1:Gi x y=some (x.tdiv y):=by
     unfold Gi;rw[Bl A4];refine EZ ?_;have a1:=Int.natAbs_tdiv_le_natAbs x y;exact⟨A4,A4⟩
    have q2:Fy x y=some (x.tmod y):=by
     unfold Fy;rw[Bl A4];rfl
    have b2:(0<=x->0<=x.tmod y/\x.tmod y<y)/\(x<0-> -y<x.tmod y/\x.tmod y<=0):=by
     refine⟨λh=>⟨Int.tmod_nonneg y h,Int.tmod_lt_of_pos x h0⟩,λh=>?_⟩;have h5:=Int.tmod_lt_of_pos (-x) h0;have h6:=Int.tmod_nonneg y (show 0<= -x by omega);rw[Int.neg_tmod] at h5 h6;omega
    refine A5 q1<|A5 q2<|Du (λs=>s.1=x/y/\s.2=x%y) (λs ⟨s1,s2⟩=>AU ⟨.inl ⟨rfl,s1,?_⟩,.inl ⟨rfl,s2,?_⟩⟩)<|λk hk=>Ad (λhd=>?_)<|λhd=>?_
    ·unfold DX;omega
    ·unfold DX;omega
    ·have hd:=An hd;obtain⟨e3,e4⟩:=pQ (x:=x) (q:=x.tdiv y-1) (r:=x.tmod y+y) h0 (by rw[Me,LY];omega) A4 A4;refine A5 BC<|A5 BC<|hk _ ⟨e3,e4⟩
    ·grind
   ·grind
  ·grind
 ·have l1:=hr.len hx;have l2:=hs.len hy;refine Az (Q5 hr) λp ⟨p1,p2,p3,p4⟩=>Az (Q5 hs) λq ⟨q1,q2,q3,q4⟩=>?_
  have hq0:q.2≠[]:=λe=>by rw[e] at q3;simp[AJ] at q3;omega
  refine Az (wL p2 q2 hq0 A4 A4) λd ⟨⟨d1,d2⟩,d3,d4⟩=>Az (TX d1 p.1) λQ hQ=>Az (TX d3 p.1) λR hR=>?_
  rw[d2,p3,q3,p1] at hQ;rw[d4,p3,q3,p1] at hR;have ey:(y.natAbs:Int)=y:=A4;rw[ey] at hQ hR;have am0:=Ld (x.natAbs:Int) (show y≠0 by omega);have am1:=L1 (x.natAbs:Int) h0;have adm:=OW (x.natAbs:Int) y;refine A5 (Vi hR)<|Du (λs=>CT s.1 (x/y)/\CT s.2 (x%y)) (λs hs=>AU hs)<|λk hk=>Ad (λhd=>?_)<|λhd=>?_
  ·have hd:=An hd;have Iq:(bif decide (x<0) then -((x.natAbs:Int)%y) else(x.natAbs:Int)%y)<0:=AY;by_cases hx0:x<0
   ·rw[B0 hx0] at hQ hR Iq;simp only[Bf] at hQ hR Iq;have JJ:(x.natAbs:Int)= -x:=A4;rw[JJ] at hQ hR Iq am0 am1 adm;obtain⟨e3,e4⟩:=pQ (x:=x) (q:= -(-x/y)-1) (r:= -(-x%y)+y) h0 (by rw[Me,LY,Int.mul_neg];omega) A4 A4;have hof:OA 1=some (1,[]):=rfl;have h1r:CT (1,[]) 1:= .inl ⟨rfl,rfl,by unfold DX;omega⟩;have at1:Cn (-(-x/y))=true:=by
     refine WU ?_ hx;have:=(wR (x:= -x) h0).1 A4;omega
    have at0:Cn (-(-x%y))=true:=by
     refine WU ?_ hy;omega
    refine A5 hof (Az (ze hQ h1r at1 rfl) λa ha=>Az (fz hR hs (by have:=hR.len at0;omega) A4) λb hb=>hk _ ⟨?_,?_⟩)
    ·rwa [e3] at ha
    ·rwa [e4] at hb
   ·grind
  ·have hd:=BQ hd;refine hk _ ?_;by_cases hx0:x<0
   ·rw[B0 hx0] at hQ hR hd;simp only[Bf] at hQ hR hd;have JJ:(x.natAbs:Int)= -x:=A4;rw[JJ] at hQ hR hd am0 am1 adm;have hz: -x%y=0:=AY;obtain⟨e3,e4⟩:=pQ (x:=x) (q:= -(-x/y)) (r:= -(-x%y)) h0 (by rw[Int.mul_neg];omega) A4 A4;rw[e3] at hQ;rw[e4] at hR;exact⟨hQ,hR⟩
   ·grind
def pg(hr:CT r x)(hs:CT s y)(hx:Cn x=true)(hy:Cn y=true)(h0:y≠0):Yd (λq=>CT q<|x.fdiv y) (Y3 r s):=by
 unfold Y3;refine A5 (Vi hs)<|Du (λt=>∃a b:Int,CT t.1 a/\CT t.2 b/\Cn a=true/\Cn b=true/\0<b/\a/b=x.fdiv y) ?_<|λk hk=>Ad (λhd=>?_)<|λhd=>?_
 ·rintro t ⟨a,b,h1,h2,h3,h4,h5,h6⟩;refine Az (wM h1 h2 h3 h4 h5) λq ⟨hq,_⟩=>AU ?_
  rwa [h6] at hq
 ·have hd:=An hd;have hn:y<0:=by
   rcases OM y 0 with h|h|h
   ·exact h
   ·exact absurd h h0
   ·rw[OY h] at hd;omega
  refine Az (Rp hr) λa ha=>Az (Rp hs) λb hb=>hk _ ⟨-x,-y,ha,hb,by rw[pE];exact hx,by rw[pE];exact hy,A4,?_⟩
  rw[<-ZW _ (show 0<= -y by omega),Int.neg_fdiv_neg]
 ·have hd:=BQ hd;have hn:0<y:=by
   rcases OM y 0 with h|h|h
   ·rw[PY h] at hd;omega
   ·exact absurd h h0
   ·exact h
  exact hk _ ⟨x,y,hr,hs,hx,hy,hn,(ZW _ A4).symm⟩
def jY(r:Int×A3 Int):Int:=if r.2=[] then r.1 else r.1*AJ r.2
def CT.val{z:Int}(h:CT r z):jY r=z:=by
 unfold jY;rcases h with⟨h1,h2,_⟩|⟨h0,_,_,_,h4,_⟩
 ·rw[if_pos h1,h2]
 ·rw[if_neg h0,h4]
def muG(a b:Nat):Nat:=if b=0 then 0 else Nat.log2 (a*b)+1+(if a<b then 1 else 0)
def zq{m n:Nat}(h:m<=n):Nat.log2 m<=Nat.log2 n:=by
 by_cases h0:m=0
 ·subst h0;simp
 ·exact pz<|Ca ((Nat.le_log2 h0).1<|BM _) h
def oU{a b:Nat}(hb:b≠0):muG b (a%b)<muG a b:=by
 have hlt:=OH a (show b>0 by omega);unfold muG;rw[if_neg hb];by_cases h0:a%b=0
 ·rw[if_pos h0];omega
 ·rw[if_neg h0,if_neg (show¬b<a%b by omega)];by_cases JJ:a<b
  ·rw[if_pos JJ,S1 JJ,Kt];omega
  ·rw[if_neg JJ];have h1:2*(a%b)<=a:=by
    have:=Nat.mod_add_div a b;have h2:1<=a/b:=(Nat.one_le_div_iff A4).2 A4;have h3:b*1<=b*(a/b):=ZO _ h2;omega
   have h2:2*(b*(a%b))<=a*b:=by
    have:=ZO b h1;rw[Nat.mul_left_comm,Kt b a] at this;exact this
   have h3:b*(a%b)≠0:=Nat.mul_ne_zero hb h0;have h4:=zq h2;have h5:Nat.log2 (2*(b*(a%b)))=Nat.log2 (b*(a%b))+1:=by
    rw[Nat.log2_two_mul h3]
   omega
def qn{a b:Nat}(ha:Nat.log2 a<1099511627776)(hb:Nat.log2 b<1099511627776):muG a b<18446744073709551616:=by
 unfold muG;have h1:a<2^(Nat.log2 a+1):=Nat.lt_log2_self;have h2:b<2^(Nat.log2 b+1):=Nat.lt_log2_self;have h3:Nat.log2 (a*b)<Nat.log2 a+1+(Nat.log2 b+1):=by
  by_cases h0:a*b=0
  ·rw[h0];simp;omega
  ·rw[PF h0,M9];exact Nat.mul_lt_mul'' h1 h2
 split
 ·omega
 ·split<;>omega
def zg(hr:CT r x)(hs:CT s y)(hx:Cn x=true)(hy:Cn y=true):Yd (λq=>CT q (Int.gcd x y:Int)) (eh r s):=by
 unfold eh;refine Az (pj hr) λa ha=>Az (pj hs) λb hb=>?_
 have hx':=F1 hx;have hy':=F1 hy;refine Ea (λt:(Int×A3 Int)×(Int×A3 Int)=>∃a b:Nat,CT t.1 (a:Int)/\CT t.2 (b:Int)/\Nat.gcd a b=Int.gcd x y/\Cn a=true/\Cn b=true) (λt:(Int×A3 Int)×(Int×A3 Int)=>muG (jY t.1).natAbs (jY t.2).natAbs) ?_ _ _ ⟨x.natAbs,y.natAbs,ha,hb,rfl,by simpa[Cn] using hx,by simpa[Cn] using hy⟩ ?_
 ·rintro next ⟨p,q⟩ ⟨a,b,h1,h2,h3,h4,h5⟩ hn
  simp only at h1 h2 hn⊢;refine A5 (Vi h2)<|Ad (λhc=>?_)<|λhc=>?_
  ·have hb0:b≠0:=λe=>by subst e;simp at hc
   refine Az (wM h1 h2 h4 h5 A4) λd ⟨_,hd⟩=>?_
   have hd':CT d.2 ((a%b:Nat):Int):=by rw[Int.natCast_emod];exact hd
   have hlt:=OH a (show b>0 by omega);refine hn _ ⟨b,a%b,h2,hd',?_,h5,WU A4 h5⟩ ?_
   ·rw[<-h3,Rt b<|a%b,<-Nat.gcd_rec,Rt]
   ·dsimp only;rw[h2.val,hd'.val,h1.val];exact oU hb0
  ·have hb0:b=0:=by
    rw[ZN,J7] at hc;have:=Int.sign_eq_zero_iff_zero.1 hc;omega
   subst hb0;refine AU ?_;rw[Nat.gcd_zero_right] at h3;rw[<-h3];exact h1
 ·dsimp only;rw[ha.val,hb.val];exact qn (by show Nat.log2 x.natAbs<_;omega) (by show Nat.log2 y.natAbs<_;omega)
end
end Trn
namespace Go.Proofs
section
open Go.Shelf
def mS:Go.Shelf.Ren:=⟨fun|166=>296|169=>297|240=>336|276=>366|n=>n,fun|0=>0|3=>3|9=>9|5=>5|72=>340|70=>337|37=>338|4=>4|20=>20|75=>298|80=>281|164=>396|n=>n,fun|n=>n⟩
def aml:Go.Proofs.Lays.n166 prog mS:={
 mixed:=Trn.A6
 f166:=func296.trans<|congrArg some Trn.A6
 f240:=func336.trans<|congrArg some Trn.A6
 f276:=func366.trans<|congrArg some Trn.A6
 t0:=underlying0
 a0:=isAgg0
 z0:=sizeOf0
 v0:=zeroValue0
 t3:=underlying3
 a3:=isAgg3
 z3:=sizeOf3
 v3:=zeroValue3
 t4:=underlying4
 a4:=isAgg4
 z4:=sizeOf4
 v4:=zeroValue4
 t9:=underlying9
 a9:=isAgg9
 z9:=sizeOf9
 v9:=zeroValue9
 t20:=underlying20
 a20:=isAgg20
 z20:=sizeOf20
 v20:=zeroValue20
 t37:=underlying338
 a37:=isAgg338
 z37:=sizeOf338
 v37:=zeroValue338
 t70:=underlying337
 a70:=isAgg337
 z70:=sizeOf337
 v70:=zeroValue337
 t72:=underlying340
 a72:=isAgg340
 z72:=sizeOf340
 v72:=zeroValue340
 t75:=underlying298
 a75:=isAgg298
 z75:=sizeOf298
 v75:=zeroValue298
 t164:=underlying396
 a164:=isAgg396
 z164:=sizeOf396
 v164:=zeroValue396}
def adO:Builder.Extra prog mS:={
 sizeBuilder:=Trn.A6
 liesBuilder:=Trn.A6
 t5:=underlying5
 a5:=isAgg5
 z5:=sizeOf5
 v5:=zeroValue5
 infoByte:=Trn.A6
 cellsByte:=Trn.A6
 sizeByte:=Trn.A6
 neB5:=by decide}
end
end Go.Proofs
namespace Trn
section
open Go.Shelf
variable[D:DR]
variable{x c y:Int}{r:Int×Int}
def yG{l s:AB}{r:AB×Int×Unit}(hm:Vl l s=some r):I9 prog 296 [] (.I5 340 5<|lB l) (.I5 340 5<|lB r.1) [TS s] [TI .i64 r.2.1,sr r.2.2]:=
 ajM (ρ:=mS) aml adO A6 hm
def aiK{l r:AB}(hm:YX l=some r):I9 prog 297 [] (.I5 340 5<|lB l) .gone [] [TS r]:=
 ahe (ρ:=mR) amk adN A6 hm
def index_one(c:UInt8):∀s:AB,Lib.index s [c]= -1\/0<=Lib.index s [c]
 |[]=> .inl rfl
 |b::l=>by
  have:=Lib.index_ge (b::l) [c];omega
def alE(c b:UInt8)(l:AB):Lib.cut (b::l) [c]=if c==b then([],l,true) else(b::(Lib.cut l [c]).1,(Lib.cut l [c]).2.1,(Lib.cut l [c]).2.2):=by
 have e:Lib.index (b::l) [c]=if c==b then 0 else if Lib.index l [c]== -1 then -1 else Lib.index l [c]+1:=by
  simp[Lib.index,List.isPrefixOf]
 unfold Lib.cut;rw[e];by_cases h:(c==b)=true
 ·simp[h]
 ·simp only[qA] at h;simp only[h];rcases index_one c l with h1|h1
  ·simp[h1]
  ·have h2: ¬Lib.index l [c]= -1:=A4;have h3:(0:Int)<=Lib.index l [c]+1:=A4;have h4:(Lib.index l [c]+1).toNat=(Lib.index l [c]).toNat+1:=A4;simp[h1,h2,h3,h4]
def fT(c:UInt8):∀(s pre:AB),cutAt c pre s=(pre.reverse++(Lib.cut s [c]).1,(Lib.cut s [c]).2.1,(Lib.cut s [c]).2.2)
 |[],pre=>by
  have:Lib.cut [] [c]=([],[],false):=by unfold Lib.cut;simp[Lib.index]
  simp[cutAt,this]
 |b::l,pre=>by
  rw[alE];unfold cutAt;by_cases h:(c==b)=true
  ·have h':(b==c)=true:=by rw[QF] at h⊢;exact h.symm
   simp[h,h']
  ·have h':(b==c)=false:=by
    cases e:(b==c) with
    |false=>rfl
    |true=>exact absurd (by rw[QF] at e⊢;exact e.symm) h
   simp only[qA] at h;simp[h,h',fT c l (b::pre)]
def arK{w:AQ}{H:HV}(sub:∀r o,H r=some o->w.heap[r]? =some o)(gl:KP prog H):∃m,w.cell? ⟨0,0,none⟩=some (.int .i64 m):=by
 have hT:(prog.globals[0]?).map (·.type)=some 3:=A6;have:=gl 0 3 hT;have hu:prog.underlying 3=some (.int .i64):=A6;unfold SE at this;rw[hu] at this;obtain⟨m,E,fr,e⟩:=this;exact⟨m,by simp[World.cell?,sub _ _ e]⟩
def abR{x y:AB}{r:AB×AB×Bool}(hm:j6 x y=some r):AP 177 [TS x,TS y] [TS r.1,TS r.2.1,Ay r.2.2]:=by
 match y,hm with
 |[c],hm=>
  obtain⟨hb,rfl⟩:=HC hm;have hb:x.length<4294967281:=F1 hb;refine RY A6 λw H vs sub gl ha=>?_
  obtain⟨u,v,rfl,hu,hv⟩:=Tc ha;have hu:u= .string ⟨x.toArray⟩:=hu;have hv:v= .string ⟨#[c]⟩:=hv;subst hu;subst hv;obtain⟨m,hm⟩:=arK sub gl;refine(strings_Cut ⟨x.toArray⟩ ⟨#[c]⟩ m w (by simpa[ByteArray.size] using hb) hm).mono ?_;rintro e w' ⟨rfl,n,rfl⟩;refine⟨_,rfl,⟨⟨rfl,rfl,rfl,BM _,λ_ _=>rfl⟩,Gu.of<|Tq _ _⟩,_,rfl,_,_,rfl,?_,_,_,rfl,?_,_,_,rfl,?_,rfl⟩
  ·rw[fT];rfl
  ·rw[fT];rfl
  ·rw[fT];rfl
def aea(w:AQ)(e:Ah)(s:ByteArray):FL w.heap.size w (Lib.bytesWorld w e s):=
 ⟨⟨by unfold Lib.bytesWorld World.freeze;split<;>rfl,by unfold Lib.bytesWorld World.freeze;split<;>rfl,by unfold Lib.bytesWorld World.freeze;split<;>rfl,by rw[Lib.bytesWorld_size];omega,λk hk=>Lib.bytesWorld_at_old w e s k hk⟩,Gu.of (by unfold Lib.bytesWorld World.freeze;split<;>exact QG _)⟩
def vo:∀(l:AB) (acc:Nat),l.all Dr=true->Lib.decFrom acc l=some (l.foldl (λn b=>10*n+(b.toNat-48)) acc)
 |[],acc,_=>rfl
 |b::l,acc,h=>by
  rw[OI,Bx] at h;obtain⟨h1,h2⟩:=h;unfold Dr at h1;rw[Bx] at h1;have h3:=F1 h1.1;have h4:=F1 h1.2;unfold Lib.decFrom Lib.digitVal;rw[if_pos ⟨h3,h4⟩];simp only[gS];rw[vo l _ h2,Kt]
def agj{s:AB}(h0:s.isEmpty=false)(h:s.all Dr=true):Lib.atoi s=some (BR s:Int):=by
 match s,h0,h with
 |b::l,_,h=>
  have hb:Dr b=true:=by rw[OI,Bx] at h;exact h.1
  unfold Dr at hb;rw[Bx] at hb;have h3:=F1 hb.1;have h5:(b==45)=false:=by
   cases e:b==45 with
   |false=>rfl
   |true=>rw[QF] at e;subst e;exact absurd h3 dcZ
  have h6:(b==43)=false:=by
   cases e:b==43 with
   |false=>rfl
   |true=>rw[QF] at e;subst e;exact absurd h3 dcZ
  have hd:Lib.decNat (b::l)=some (BR (b::l)):=by
   unfold Lib.decNat;rw[if_neg AS];exact vo _ 0 h
  show(if(b==45)=true then(Lib.decNat l).map λ(m:Nat)=> -(m:Int) else if(b==43)=true then(Lib.decNat l).map λ(m:Nat)=>(m:Int) else(Lib.decNat (b::l)).map λ(m:Nat)=>(m:Int))=_;rw[h5,h6,hd]
  rfl
def ao9{x:AB}{r:Int×Unit}(hm:Zu x=some r):AP 248 [TS x] [TI .i64 r.1,sr r.2]:=by
 obtain⟨hb,rfl⟩:=HC hm;rw[Bx,Bx] at hb;obtain⟨⟨h1,h2⟩,h3⟩:=hb;have h1:x.isEmpty=false:=by simpa using h1
 have h2:=F1 h2;refine RY A6 λw H vs sub gl ha=>?_
 obtain⟨u,rfl,hu⟩:=PD ha;have hu:u= .string ⟨x.toArray⟩:=hu;subst hu;refine(strconv_Atoi ⟨x.toArray⟩ (BR x:Int) (by simpa[ByteArray.size] using h2) (agj h1 h3) w).mono ?_;rintro e w' ⟨rfl,t,rfl⟩;exact⟨_,rfl,aea w 5 t,_,rfl,_,_,rfl,rfl,_,_,rfl,rfl,rfl⟩
def mZ:B6 AR->Sem AR:=λargs=>do
 let(x,y,b)<-Extern.MathBitsCarry.three "Sub64" args
 pure (Extern.MathBitsCarry.pair ((x+Extern.MathBitsCarry.m64-y-b)%Extern.MathBitsCarry.m64)<|if x<y+b then 1 else 0)
def aiP{P:C7}(X Y k:Nat)(hk:k<=1)(w:AQ):(mZ #[.int .u64 (X:Int),.int .u64 (Y:Int),.int .u64 (k:Int)]).run P w=
  .ok (Extern.MathBitsCarry.pair ((X+18446744073709551616-Y-k)%18446744073709551616)<|if X<Y+k then 1 else 0) w:=by
 have:k=0\/k=1:=A4;rcases this with rfl|rfl<;>rfl
def RX(h:H4 x=true):∃n:Nat,x=n/\n<18446744073709551616:=by
 unfold H4 at h;rw[Bx,J7,J7] at h;obtain⟨n,rfl⟩:=F8 h.1;exact⟨n,rfl,A4⟩
def we(h:(decide (c=0)||decide (c=1))=true):∃k:Nat,c=k/\k<=1:=by
 rw[QK,J7,J7] at h;rcases h with rfl|rfl
 ·exact⟨0,rfl,A4⟩
 ·exact⟨1,rfl,A4⟩
def xW{H:HV}{τ σ υ:Ty}{vs:A3 AR}(h:Ee H [τ,σ,υ] vs):∃v u t,vs=[v,u,t]/\τ.ok H v/\σ.ok H u/\υ.ok H t:=by
 obtain⟨v,rest,e,hv,hr⟩:=h;obtain⟨u,t,e2,hu,ht⟩:=Tc hr;subst e2;exact⟨v,u,t,e,hv,hu,ht⟩
def alo(M X Y k:Nat)(hY:Y<M)(hk:k<=1):(((X+M-Y-k)%M:Nat):Int)=((X:Int)-Y-k)%(M:Int):=by
 have:((X+M-Y-k:Nat):Int)=((X:Int)-Y-k)+M:=A4;rw[Int.natCast_emod,this,Int.add_emod_right]
def sub_lt(X Y k:Nat):((if X<Y+k then 1 else 0:Nat):Int)=bif decide ((X:Int)<Y+k) then 1 else 0:=by
 by_cases h:X<Y+k
 ·have h':(X:Int)<(Y:Int)+(k:Int):=A4;simp[h,h']
 ·have h': ¬(X:Int)<(Y:Int)+(k:Int):=A4;simp[h,h']
def Tb(hm:LX x y c=some r):qZ prog 308 [TI .u64 x,TI .u64 y,TI .u64 c] [TI .u64 r.1,TI .u64 r.2]:=by
 unfold LX at hm;cases hb:((H4 x&&H4 y)&&(decide (c=0)||decide (c=1)))
 ·rw[hb] at hm;cases hm
 rw[hb] at hm;have hm:=E5 hm;subst hm;rw[Bx,Bx] at hb;obtain⟨⟨h1,h2⟩,h3⟩:=hb;obtain⟨X,rfl,hX⟩:=RX h1;obtain⟨Y,rfl,hY⟩:=RX h2;obtain⟨k,rfl,hk⟩:=we h3;refine⟨λw H vs ha=>?_⟩;obtain⟨u,v,t,rfl,hu,hv,ht⟩:=xW ha;have hu:u= .int .u64 (X:Int):=hu;have hv:v= .int .u64 (Y:Int):=hv;have ht:t= .int .u64 (k:Int):=ht;subst hu;subst hv;subst ht;refine⟨.tuple #[.int .u64<|((X:Int)+Y+k)%18446744073709551616,.int .u64<|((X:Int)+Y+k)/18446744073709551616],w,?_,⟨Below.refl _ _,BM _⟩,?_⟩
 ·rw[run_callFunc_extern func308 A6 A6 A6 (e:=add64Entry) A6];show Result.andThen ((add64Entry #[.int .u64 (X:Int),.int .u64 (Y:Int),.int .u64 (k:Int)]).run prog w) _=_;rw[run_add64 _ _ _ A4 A4 A4 A4 w]
  rfl
 ·exact⟨_,rfl,_,_,rfl,rfl,_,_,rfl,rfl,rfl⟩
def pN(hm:Rr x y c=some r):qZ prog 310 [TI .u64 x,TI .u64 y,TI .u64 c] [TI .u64 r.1,TI .u64 r.2]:=by
 unfold Rr at hm;cases hb:((H4 x&&H4 y)&&(decide (c=0)||decide (c=1)))
 ·rw[hb] at hm;cases hm
 rw[hb] at hm;have hm:=E5 hm;subst hm;rw[Bx,Bx] at hb;obtain⟨⟨h1,h2⟩,h3⟩:=hb;obtain⟨X,rfl,hX⟩:=RX h1;obtain⟨Y,rfl,hY⟩:=RX h2;obtain⟨k,rfl,hk⟩:=we h3;refine⟨λw H vs ha=>?_⟩;obtain⟨u,v,t,rfl,hu,hv,ht⟩:=xW ha;have hu:u= .int .u64 (X:Int):=hu;have hv:v= .int .u64 (Y:Int):=hv;have ht:t= .int .u64 (k:Int):=ht;subst hu;subst hv;subst ht;refine⟨Extern.MathBitsCarry.pair ((X+18446744073709551616-Y-k)%18446744073709551616)<|if X<Y+k then 1 else 0,w,?_,⟨Below.refl _ _,BM _⟩,?_⟩
 ·rw[run_callFunc_extern func310 A6 A6 A6 (e:=mZ) A6];show Result.andThen ((mZ #[.int .u64 (X:Int),.int .u64 (Y:Int),.int .u64 (k:Int)]).run prog w) _=_;rw[aiP _ _ _ hk w]
  rfl
 ·refine⟨_,rfl,_,_,rfl,?_,_,_,rfl,?_,rfl⟩
  ·exact congrArg (Value.int .u64)<|alo 18446744073709551616 X Y k hY hk
  ·exact congrArg (Value.int .u64)<|sub_lt X Y k
def fY(hm:QE x y=some r):AP 250 [TI .u64 x,TI .u64 y] [TI .u64 r.1,TI .u64 r.2]:=by
 unfold QE at hm;cases hb:(H4 x&&H4 y)
 ·rw[hb] at hm;cases hm
 rw[hb] at hm;have hm:=E5 hm;subst hm;rw[Bx] at hb;obtain⟨X,rfl,hX⟩:=RX hb.1;obtain⟨Y,rfl,hY⟩:=RX hb.2;refine RY A6 λw H vs sub gl ha=>?_
 obtain⟨u,v,rfl,hu,hv⟩:=Tc ha;have hu:u= .int .u64 (X:Int):=hu;have hv:v= .int .u64 (Y:Int):=hv;subst hu;subst hv;refine(bits_Mul64 X Y hX hY w).mono ?_;rintro e w' ⟨rfl,rfl⟩;exact⟨_,rfl,FL.refl _ _,_,rfl,_,_,rfl,congrArg (Value.int .u64) (by rw[Int.natCast_ediv,NL];rfl),_,_,rfl,congrArg (Value.int .u64) (by rw[Int.natCast_emod,NL];rfl),rfl⟩
def vI:∀(f n:Nat),n<2^f->Lib.bitLenAux f n=Nb n
 |0,n,h=>by
  have:n=0:=by simpa using h
  subst this;rfl
 |f+1,n,h=>by
  unfold Lib.bitLenAux Nb;by_cases h0:n=0
  ·subst h0;rfl
  ·rw[if_neg h0,vI f (n/2) (by rw[Rs] at h;omega)];have hb:Nat.beq n 0=false:=by
    cases e:Nat.beq n 0 with
    |false=>rfl
    |true=>exact absurd (EG e) h0
   rw[hb];unfold Nb;by_cases h1:n/2=0
   ·have:n=1:=A4;subst this;rfl
   ·have hb2:Nat.beq (n/2) 0=false:=by
     cases e:Nat.beq (n/2) 0 with
     |false=>rfl
     |true=>exact absurd (EG e) h1
    rw[hb2];show 1+(Nat.log2 (n/2)+1)=Nat.log2 n+1
    conv=>rhs;rw[Nat.log2_def,if_pos A4]
    omega
def bitLen_eq{n:Nat}(h:n<18446744073709551616):Lib.bitLen n=Nb n:=vI 64 n h
def aly{r:Int}(hm:Z3 x=some r):AP 243 [TI .u64 x] [TI .i64 r]:=by
 unfold Z3 at hm;cases hb:H4 x
 ·rw[hb] at hm;cases hm
 rw[hb] at hm;have hm:=E5 hm;subst hm;obtain⟨X,rfl,hX⟩:=RX hb;refine RY A6 λw H vs sub gl ha=>?_
 obtain⟨u,rfl,hu⟩:=PD ha;have hu:u= .int .u64 (X:Int):=hu;subst hu;refine(bits_Len64 (X:Int) w A4 A4).mono ?_;rintro e w' ⟨rfl,rfl⟩;exact⟨_,rfl,FL.refl _ _,congrArg (Value.int .i64) (by rw[Ch,bitLen_eq hX])⟩
def aab{r:Int}(hm:WY x=some r):AP 315 [TI .u64 x] [TI .i64 r]:=by
 unfold WY at hm;cases hb:H4 x
 ·rw[hb] at hm;cases hm
 rw[hb] at hm;have hm:=E5 hm;subst hm;obtain⟨X,rfl,hX⟩:=RX hb;refine RY A6 λw H vs sub gl ha=>?_
 obtain⟨u,rfl,hu⟩:=PD ha;have hu:u= .int .u64 (X:Int):=hu;subst hu;refine(bits_LeadingZeros64 (X:Int) w A4 A4).mono ?_;rintro e w' ⟨rfl,rfl⟩;exact⟨_,rfl,FL.refl _ _,congrArg (Value.int .i64) (by rw[Ch,bitLen_eq hX])⟩
end
section
variable{k:Nat}{x y:Rat}{z:Int}{n j:Nat}{r:Int×A3 Int}{a b:Nat}
def aoH:Bool:=(List.range 19).all λk=>decide<|Y4 (10,[]) (k:Int)=some ((10:Int)^k,[])
def ail:aoH=true:=A6
def aiw(h:k<=18):Y4 (10,[]) (k:Int)=some ((10:Int)^k,[]):=by
 have:=DZ.1 ail k<|QJ.2 A4
 exact An this
def eN:∀(l:AB) (n:Nat),l.foldl (λn b=>10*n+(b.toNat-48)) n=n*10^l.length+BR l
 |[],n=>by simp[BR]
 |b::l,n=>by
  have e:BR (b::l)=(b.toNat-48)*10^l.length+BR l:=by
   show l.foldl (λn b=>10*n+(b.toNat-48)) (10*0+(b.toNat-48))=_;rw[eN l,Nat.mul_zero,PH]
  rw[gS,eN l,e,JR,Dj,Rs];have:10*n*10^l.length=n*(10^l.length*10):=by rw[Kt 10 n,Nat.mul_assoc,Kt 10]
  omega
def YF(l m:AB):BR (l++m)=BR l*10^m.length+BR m:=by
 show(l++m).foldl _ 0=_;rw[List.foldl_append,eN m];rfl
theorem aj2{b:UInt8}(h:Dr b=true):b.toNat-48<=9:=by simp_all [Dr]
def QA:∀(l:AB),l.all Dr=true->BR l<10^l.length
 |[],_=>by simp[BR]
 |b::l,h=>by
  rw[OI] at h;obtain⟨h1,h2⟩:=EH h;have:=QA l h2;have hb:=aj2 h1;show(b::l).foldl _ 0<_;rw[gS,eN l,Dj,Rs];have:(10*0+(b.toNat-48))*10^l.length<=9*10^l.length:=J9 _ A4;omega
def NC(h:z.natAbs<10^n)(hn:n<=1000000):Cn z=true:=by
 unfold Cn;refine IE ?_;rcases L2 z.natAbs with h0|h0
 ·rw[h0];exact IE AS|>F1
 ·have h1:(10:Nat)^n<=(2^4)^n:=qE A4 n;rw[<-Nat.pow_mul] at h1;have:Nat.log2 z.natAbs<4*n:=(PF A4).2 A4;omega
def akV{s:AB}(h:Hw s=some z):Yd (λq=>CT q z) (eG s):=by
 have core:∀(ds:AB) (neg:Bool) (w:Int),(ds.all Dr&&Nat.blt ds.length 1000000)=true->w=(bif neg then -(BR ds:Int) else(BR ds:Int))->
   Yd (λq=>CT q w) (lp 18446744073709551616 (λ(k6:(AB×(Int×A3 Int))->A9 _) (s5:AB×(Int×A3 Int))=>
    cond (decide<|(0:Int)<(s5.1.length:Int)) (
     bd (C2 s5.1 0<|mn_ (18:Int) (s5.1.length:Int)) λx8=>
     bd (Zu x8) λB9=>
     bd (OA (10:Int)) λBI=>
     bd (Y4 BI<|mn_ (18:Int) (s5.1.length:Int)) λBj=>
     bd (T5 s5.2 Bj) λBW=>
     bd (OA B9.1) λBz=>
     bd (T6 BW Bz) λBs=>
     bd (C2 s5.1 (mn_ (18:Int) (s5.1.length:Int)) (s5.1.length:Int)) λDK=>
     k6 (DK,Bs)
    ) (
     cond neg (
      bd (O4 s5.2) λCu=>
      some Cu
     ) (
      some s5.2
     )
    )
   ) (ds,(0,[]))):=by
  intro ds neg w hds hw;obtain⟨hd,hl⟩:=EH hds;have hl:ds.length<1000000:=F1 hl;refine Ea (λt:AB×(Int×A3 Int)=>t.1.all Dr=true/\t.1.length<=ds.length/\∃v:Nat,CT t.2 (v:Int)/\v<10^(ds.length-t.1.length)/\v*10^t.1.length+BR t.1=BR ds)
   (λt:AB×(Int×A3 Int)=>t.1.length) ?_ _ _ ⟨hd,BM _,0,.inl ⟨rfl,rfl,by unfold DX;omega⟩,by dsimp only;rw[Nat.sub_self];decide,Au⟩ Au
  rintro next ⟨ss,r⟩ ⟨h1,h2,v,h3,h4,h5⟩ hn
  dsimp only at h1 h2 h3 h4 h5 hn⊢;have hsv:Cn (v:Int)=true:=NC (n:=ds.length-ss.length) (by simpa using h4) A4;refine Ad (λhc=>?_)<|λhc=>?_
  ·have hc:=An hc;obtain⟨m,hm,hm1,hm2,hm3⟩:∃m:Nat,mn_ 18 (ss.length:Int)=(m:Int)/\m<=18/\m<=ss.length/\0<m:=by
    unfold mn_;by_cases h:(ss.length:Int)<18
    ·rw[B0 h];exact⟨ss.length,rfl,A4,A4,A4⟩
    ·rw[Bl h];exact⟨18,rfl,A4,A4,A4⟩
   rw[hm];have hss:ss=ss.take m++ss.drop m:=(OX m ss).symm;have hall:=h1;rw[hss,gR] at hall;obtain⟨a1,a2⟩:=EH hall;have hlt:(ss.take m).length=m:=by rw[Dn];omega
   have hld:(ss.drop m).length=ss.length-m:=IC;have Jv:=YF (ss.take m)<|ss.drop m
   rw[<-hss,hld] at Jv;have hb:=QA _ a1;rw[hlt] at hb;have aus:BR (ss.take m)<10^18:=J8 hb<|KN A4 hm1
   have avD:(10:Nat)^m<=10^18:=KN A4 hm1;have arF:((10:Int)^m)=((10^m:Nat):Int):=by rw[Int.natCast_pow];rfl
   have hat:Zu (ss.take m)=some ((BR (ss.take m):Int),()):=by
    unfold Zu;have e1:(ss.take m).isEmpty=false:=by
     cases he:(ss.take m) with
     |nil=>rw[he] at hlt;simp at hlt;omega
     |cons _ _=>rfl
    have e2:Nat.ble (ss.take m).length 18=true:=IE A4;rw[e1,e2,a1];rfl
   refine A5 (EW A4 A4 A4) ?_;have e0:(ss.take ((m:Nat):Int).toNat).drop ((0:Int)).toNat=ss.take m:=AS;rw[e0];refine A5 hat<|A5 (show OA 10=some (10,[]) from rfl)<|A5 (aiw hm1) ?_
   have hp:0<(10:Nat)^m:=Z7 A4;have hrp:CT ((10:Int)^m,[]) ((10^m:Nat):Int):= .inl ⟨rfl,by dsimp only;exact arF,by unfold DX;omega⟩;have CO:(10:Nat)^18<10^19:=dcZ;have asz:Cn ((10^m:Nat):Int)=true:=NC (n:=19) (by simp only[En];omega) A4;refine Az (zf h3 hrp hsv asz) λq hq=>?_
   refine A5 (show OA (BR (ss.take m):Int)=some ((BR (ss.take m):Int),[]) from rfl) ?_;have hrd:CT ((BR (ss.take m):Int),[]) (BR (ss.take m):Int):= .inl ⟨rfl,rfl,by unfold DX;omega⟩;have atX:ds.length-(ss.drop m).length=(ds.length-ss.length)+m:=by rw[hld];omega
   have Pg:v*10^m+BR (ss.take m)<10^(ds.length-(ss.drop m).length):=by
    rw[atX,M9];have:(v+1)*10^m<=10^(ds.length-ss.length)*10^m:=J9 _ A4;rw[JR,LZ] at this;omega
   have asy:Cn ((v:Int)*((10^m:Nat):Int))=true:=by
    rw[<-NL];exact NC (n:=ds.length-(ss.drop m).length) (by simp only[En];omega) A4
   have hlq:=hq.len asy;refine Az (fz hq hrd A4 AS) λq2 hq2=>?_
   refine A5 (EW A4 A4 A4) ?_;have e1:(ss.take ((ss.length:Nat):Int).toNat).drop ((m:Nat):Int).toNat=ss.drop m:=AS;rw[e1];refine hn _ ⟨a2,Au,v*10^m+BR (ss.take m),?_,Pg,?_⟩ Au
   ·dsimp only;rw[Int.natCast_add,NL];exact hq2
   ·dsimp only;rw[<-h5,Jv,JR,Nat.mul_assoc,<-M9,hld,show m+(ss.length-m)=ss.length from by omega];omega
  ·have hc:=BQ hc;have h0:ss=[]:=Js A4;subst h0;have h5:v=BR ds:=by simpa[BR] using h5
   subst h5;subst hw;cases neg
   ·exact Ad (λh=>by cases h)<|λ_=>AU h3
   ·exact Ad (λ_=>Az (Rp h3) λq hq=>AU hq) (λh=>by cases h)
 have hp:∀b:Bool,(decide ((([45]:AB).length:Int)<=(s.length:Int))&&(s.take 1==[45]))=b->Nx s [45]=some b:=by
  intro b hb;unfold Nx;cases hc:decide ((([45]:AB).length:Int)<=(s.length:Int)) with
  |false=>
   rw[hc] at hb;rw[Tn] at hb;subst hb;rfl
  |true=>
   rw[hc] at hb;have hc:=An hc;show bd (C2 s 0<|(([45]:AB).length:Int)) _=_;rw[EW A4 A4 hc];exact congrArg some hb
 have pre:∀(b:Bool) (ds:AB),Nx s [45]=some b->(b=true->s=45::ds)->(b=false->ds=s)->(ds.all Dr&&Nat.blt ds.length 1000000)=true->z=(bif b then -(BR ds:Int) else(BR ds:Int))->Yd (λq=>CT q z) (eG s):=by
  intro b ds e1 e2 e2' e3 e4;unfold eG;refine A5 (x:=b) ?_<|A5 (x:=ds) ?_<|core ds b z e3 e4
  ·unfold kD;rw[e1];rfl
  ·unfold Om Sm;rw[e1];cases b
   ·rw[e2' rfl];rfl
   ·rw[e2 rfl];show bd (bd (C2 (45::ds) 1 (((45::ds:AB).length:Nat):Int)) _) _=_;rw[EW A4 (by rw[Dj];omega)<|Int.le_refl _];show some _=some _;simp
 unfold Hw at h;split at h
 ·rename_i ds;obtain⟨hb,rfl⟩:=HC h;refine pre true ds (hp true ?_) (λ_=>rfl) (λh=>by cases h) hb rfl;rw[B0 (show((([45]:AB).length:Nat):Int)<=(((45::ds:AB).length:Nat):Int) by simp only[Dj,W6];omega)]
  rfl
 ·rename_i hne;obtain⟨hb,rfl⟩:=HC h;refine pre false s (hp false ?_) (λh=>by cases h) (λ_=>rfl) hb rfl;cases s with
  |nil=>rfl
  |cons c l=>
   have:c≠45:=λe=>hne l (by rw[e])
   have h2:((c::l).take 1==[45])=false:=by
    simp[this]
   rw[h2,gM]
def aix(h0:n≠0)(h1:2^k<=n)(h2:n<2^(k+1)):Nat.log2 n=k:=(Nat.log2_eq_iff h0).2 ⟨h1,h2⟩
def ajS{w:A3 Int}{t:Nat}(hw:okW w)(hl:w.length=k+1)(ht:w.getD k 0=(t:Int))(h0:t≠0):((AJ w).toNat).log2=64*k+t.log2:=by
 have hs:AJ w=AJ (w.take k)+Aw k*(t:Int):=by
  have:AJ (w.take<|k+1)=AJ w:=by rw[Cd A4]
  rw[<-this,FH,ht]
 obtain⟨b0,b1⟩:=Gd<|M3 hw k
 rw[Dn,EN A4] at b1;rw[pR] at hs b1;obtain⟨L,hL⟩:=F8 b0;rw[hL] at hs b1;have e:(AJ w).toNat=L+2^(64*k)*t:=by
  rw[hs,<-NL];omega
 have hL':L<2^(64*k):=by exact_mod_cast b1
 obtain⟨l1,l2⟩:=YY h0;have hp:0<2^(64*k):=ZF _;have m1:2^(64*k)*2^t.log2<=2^(64*k)*t:=ZO _ l1;have m2:2^(64*k)*(t+1)<=2^(64*k)*2^(t.log2+1):=ZO _ l2;rw[<-M9] at m1 m2;rw[Nat.mul_add,Nat.mul_one] at m2;have hp2:0<2^(64*k+t.log2):=ZF _;rw[e];exact aix A4 A4 (by rw[Kx];omega)
def akX(h:CT r z)(hz:Cn z=true):kv r=some (bif decide (z=0) then 0 else(Nat.log2 z.natAbs:Int)+1):=by
 refine G5 ?_;unfold kv;have hlen:=h.len hz;refine Az (Q5 h) ?_;rintro⟨neg,w⟩ ⟨_,hw,hv,hl⟩;dsimp only at hw hv hl⊢;refine Ad (λhc=>?_)<|λhc=>?_
 ·have hc:=An hc;have h0:w=[]:=Js A4;subst h0;have:z=0:=by
   have:(0:Int)=(z.natAbs:Int):=hv;omega
  subst this;exact AU rfl
 ·have hc:=BQ hc;obtain⟨k,hk⟩:∃k,w.length=k+1:=⟨w.length-1,A4⟩;have e1:((w.length:Int)-1)=((k:Nat):Int):=A4;rw[e1];have ht:=Ft hw.1 k;obtain⟨t,ht'⟩:=F8 ht.1;have h0:t≠0:=by
   intro e;subst e;refine hw.2 ?_;rw[List.getLast?_eq_getElem?,show w.length-1=k from by omega];rw[IF,Gy A4] at ht';rw[Gy A4];simpa using ht'
  have XA:=ajS hw.1 hk ht' h0;rw[hv,Ch] at XA;have hz0:z≠0:=by
   intro e;subst e;have:=TJ hw.1 (by intro e;rw[e] at hk;simp at hk) hw.2;have hp:=LV<|w.length-1
   rw[hv] at this;simp at this;omega
  have ht2:t<2^64:=by have:=ht.2;rw[ht'] at this;unfold BB at this;omega
  have aoo:Z3 (t:Int)=some ((t.log2:Int)+1):=by
   unfold Z3 H4;rw[B0 (show(0:Int)<=(t:Int) by omega),B0 (show((t:Nat):Int)<18446744073709551616 by omega)];show some ((Nb ((t:Nat):Int).toNat:Nat):Int)=_;have:Nb t=Nat.log2 t+1:=by
    unfold Nb;have:Nat.beq t 0=false:=by
     cases hb:Nat.beq t 0 with
     |false=>rfl
     |true=>exact absurd (EG hb) h0
    rw[this];rfl
   rw[Ch,this];rfl
  have hlt:t.log2<64:=(PF h0).2 ht2;refine A5 BC<|A5 BC<|A5 BC<|A5 (Bc A4) ?_
  rw[ht'];refine A5 aoo<|A5 BC<|AU ?_
  rw[Bl hz0,XA];simp only[B8];omega
theorem CT.one(h:CT r z):((List.isEmpty r.2)&&decide (r.1=(1:Int)))=decide (z=1):=by grind [CT]
def akW{s:Int×A3 Int}{x y:Int}(hr:CT r x)(hs:CT s y)(hx:Cn x=true)(hy:Cn y=true)(h0:y≠0):Yd (λq=>CT q.1 ((x:Rat)/(y:Rat)).num/\CT q.2 (((x:Rat)/(y:Rat)).den:Int)) (nB r s):=by
 unfold nB;have en:((x:Rat)/(y:Rat)).num=(y.sign*x)/(Int.gcd y x:Int):=by rw[<-OL,gL]
 have ed:(((x:Rat)/(y:Rat)).den:Int)=(y.natAbs:Int)/(Int.gcd y x:Int):=by
  rw[<-OL,gK,if_neg h0];rfl
 rw[en,ed];refine A5 (Vi hs)<|Du (λt=>CT t.1 (y.sign*x)/\CT t.2 (y.natAbs:Int)) ?_<|λk hk=>Ad (λhd=>?_)<|λhd=>?_
 ·rintro⟨a,b⟩ ⟨ha,hb⟩;dsimp only at ha hb⊢;have hg:Int.gcd (y.sign*x) (y.natAbs:Int)=Int.gcd y x:=by
   rw[Int.gcd_comm];unfold Int.gcd;rw[JS,En]
   congr 1
   rcases OM y 0 with h|h|h
   ·rw[PY h];simp
   ·exact absurd h h0
   ·rw[OY h];simp
  have hg0:0<Int.gcd y x:=iE _ h0;have sa:Cn (y.sign*x)=true:=WU (y:=x) (by
   rw[JS];rcases OM y 0 with h|h|h
   ·rw[PY h];simp
   ·exact absurd h h0
   ·rw[OY h];simp) hx
  have sb:Cn (y.natAbs:Int)=true:=WU (y:=y) AS hy;rw[CT.one hb];refine Ad (λhc=>?_)<|λhc=>?_
  ·have hc:=An hc;have h1:Int.gcd y x=1:=by
    unfold Int.gcd;rw[show y.natAbs=1 from by omega,Nat.gcd_one_left]
   rw[h1];refine AU ⟨?_,?_⟩
   ·dsimp only;rw[show((1:Nat):Int)=1 from rfl,Int.ediv_one];exact ha
   ·dsimp only;rw[show((1:Nat):Int)=1 from rfl,Int.ediv_one];exact hb
  ·refine Az (zg ha hb sa sb) λg hgr=>?_
   rw[hg] at hgr;have sg:Cn (Int.gcd y x:Int)=true:=WU (y:=y) (by
    rw[En];exact Nat.le_of_dvd A4<|Nat.gcd_dvd_left _ _) hy
   refine Az (pg ha hgr sa sg A4) λp hp=>Az (pg hb hgr sb sg A4) λq hq=>AU ⟨?_,?_⟩
   ·dsimp only;rw[ZW _ A4] at hp;exact hp
   ·dsimp only;rw[ZW _ A4] at hq;exact hq
 ·have hd:=An hd;have hn:y<0:=by
   rcases OM y 0 with h|h|h
   ·exact h
   ·exact absurd h h0
   ·rw[OY h] at hd;omega
  refine Az (Rp hr) λa ha=>Az (Rp hs) λb hb=>hk _ ⟨?_,?_⟩
  ·rw[PY hn];simpa using ha
  ·rw[show(y.natAbs:Int)= -y from by omega];exact hb
 ·have hd:=BQ hd;have hn:0<y:=by
   rcases OM y 0 with h|h|h
   ·rw[PY h] at hd;omega
   ·exact absurd h h0
   ·exact h
  refine hk _ ⟨?_,?_⟩
  ·rw[OY hn,Ho];exact hr
  ·rw[show(y.natAbs:Int)=y from by omega];exact hs
def aa9:∀(f n:Nat) (acc:AB),n<f->aq f n acc=Lib.decDigits n++acc
 |0,n,_,h=>by omega
 |f+1,n,acc,h=>by
  unfold aq;by_cases h1:n<10
  ·rw[show Nat.blt n 10=true from IE h1,Lib.decDigits_one h1];rfl
  ·have:Nat.blt n 10=false:=by
    cases hb:Nat.blt n 10 with
    |false=>rfl
    |true=>exact absurd (F1 hb) h1
   rw[this];show aq f (n/10) _=_;rw[aa9 f (n/10) _ A4]
   conv=>rhs;rw[Lib.decDigits,dif_neg h1]
   simp
def WQ(n:Nat):Am n=Lib.decDigits n:=by unfold Am;rw[aa9 _ _ _ A4];simp
def OD(h:n<10):Am n=[UInt8.ofNat<|48+n]:=by rw[WQ,Lib.decDigits_one h]
def RZ(h: ¬n<10):Am n=Am (n/10)++[UInt8.ofNat<|48+n%10]:=by
 rw[WQ,WQ,Lib.decDigits,dif_neg h]
def LS:∀(k n:Nat),0<k->n<10^k->(Am n).length<=k
 |0,_,h,_=>by omega
 |k+1,n,_,h=>by
  by_cases h1:n<10
  ·rw[OD h1];simp
  ·rw[RZ h1,ED];rcases L2 k with h0|h0
   ·subst h0;simp at h;omega
   ·have:=LS k (n/10) h0 (by rw[Rs] at h;omega);simp;omega
def IP(k r:Nat):AB:=List.replicate (k-(Am r).length) 48++Am r
def aiq{r:Nat}(hk:0<k)(hr:r/10<10^k):IP (k+1) r=IP k (r/10)++[UInt8.ofNat<|48+r%10]:=by
 unfold IP;by_cases h:r<10
 ·rw[show r/10=0 from by omega,OD h,OD (show 0<10 by omega),show r%10=r from by omega];have:List.replicate (k+1-1) (48:UInt8)=List.replicate (k-1) 48++[48]:=by
   rw[show k+1-1=(k-1)+1 from by omega,List.replicate_succ']
  simp only[Ij];rw[this];rfl
 ·rw[RZ h,ED,Ij,show k+1-((Am<|r/10).length+1)=k-(Am<|r/10).length from by omega,ID]
def nK:∀(k q r:Nat),0<q->0<k->r<10^k->Am (q*10^k+r)=Am q++IP k r
 |0,_,_,_,h,_=>by omega
 |k+1,q,r,hq,_,hr=>by
  rw[Rs] at hr⊢;have hp:0<10^k:=Z7 A4;have MQ:10^k<=q*10^k:=Nat.le_mul_of_pos_left _ hq;rw[<-Nat.mul_assoc];rw[RZ A4,show(q*10^k*10+r)/10=q*10^k+r/10 from by omega,show(q*10^k*10+r)%10=r%10 from by omega];rcases L2 k with h0|h0
  ·subst h0;have h9:r<10:=by simpa using hr
   rw[show r/10=0 from by omega,Nat.pow_zero,Nat.mul_one,Tk];unfold IP;rw[OD h9,show r%10=r from by omega];rfl
  ·rw[nK k q (r/10) hq h0 A4,aiq h0 A4,ID]
def zR(c:Nat):jZ [48] c=List.replicate c 48:=by
 induction c with
 |zero=>rfl
 |succ c ih=>rw[List.replicate_succ,<-ih];rfl
def Norm.pos{w:A3 Int}(h:Norm w)(h0:w≠[]):0<AJ w:=by
 have:=TJ h.1 h0 h.2;have:=LV<|w.length-1
 omega
def ahQ{r:Nat}(h:r<1000000000000000000):(Am r).length<=18:=LS 18 r A4 (by simpa using h)
def alA{l:A3 AB}{x:AB}(h:l[n]? =some x):(l.drop n).reverse.flatten=(l.drop<|n+1).reverse.flatten++x:=by
 obtain⟨hn,e⟩:=GD.1 h;rw[U4 hn,e,List.reverse_cons,List.flatten_append];simp
theorem yo{l:A3 AB}(h:∀x∈l,x.length<=18):l.flatten.length<=18*l.length:=by induction l<;>grind
theorem ah8(h:CT r z)(hz:Cn z=true):Yd (λs=>s=Bo z) (kU r):=by
 unfold kU;have hlen:=h.len hz;refine Ad (λhc=>?_)<|λhc=>?_
 ·rcases h with⟨h1,h2,h3⟩|⟨h1,_⟩
  ·have e:Zt z=some (Bo z):=by
    unfold Zt;have:Hd z=true:=by
     unfold DX at h3;unfold Hd;rw[B0 h3.1,B0 h3.2];rfl
    rw[this];rfl
   rw[h2];exact A5 e<|AU rfl
  ·grind
 have MQ:z.natAbs≠0:=by
  rcases h with⟨h1,_⟩|⟨h0,h1,h2,h3,h4,h5⟩
  ·rw[h1] at hc;simp at hc
  ·grind
 have XA:Nat.log2 z.natAbs<1099511627776:=F1 hz;refine Az (Q5 h) ?_;rintro⟨neg,w0⟩ ⟨p1,p2,p3,p4⟩;dsimp only at p1 p2 p3 p4⊢;refine Ea (λt:A3 Int×A3 AB=>Norm t.1/\(∀x∈t.2,x.length<=18)/\∃v:Nat,AJ t.1=(v:Int)/\v<=z.natAbs/\t.2.length+(if v=0 then 0 else Nat.log2 v+1)<=Nat.log2 z.natAbs+1/\Am z.natAbs=(if v=0 then [] else Am v)++t.2.reverse.flatten)
  (λt:A3 Int×A3 AB=>if AJ t.1=0 then 0 else Nat.log2 (AJ t.1).toNat+1) ?_ _ _ ⟨p2,AS,z.natAbs,p3,BM _,by dsimp only;rw[if_neg MQ];simp,by dsimp only;rw[if_neg MQ];simp⟩ (by
   dsimp only;rw[p3,Ch];split<;>omega)
 rintro next ⟨w,l⟩ ⟨h1,h2,v,h3,h4,h5,h6⟩ hn
 dsimp only at h1 h2 h3 h4 h5 h6 hn⊢;refine Ad (λhd=>?_)<|λhd=>?_
 ·have hd:=An hd;have hw0:w≠[]:=by intro e;rw[e] at hd;simp at hd
  have I2:v≠0:=by have:=h1.pos hw0;omega
  rw[if_neg I2] at h5 h6;have hwl:w.length<=w0.length:=h1.len (by have:=(Gd p2.1).2;omega);have rQ:Norm ([1000000000000000000]:A3 Int):=⟨by rw[P9];exact⟨⟨A4,by unfold BB;omega⟩,Z0⟩,AS⟩;refine Az (wL h1 rQ AS A4 AS) ?_;rintro⟨q,m⟩ ⟨⟨d1,d2⟩,d3,d4⟩;dsimp only at d1 d2 d3 d4⊢;have evb:AJ ([1000000000000000000]:A3 Int)=1000000000000000000:=by simp[AJ]
  rw[evb,h3] at d2 d4;have d2:AJ q=((v/1000000000000000000:Nat):Int):=by rw[d2];rfl
  have d4:AJ m=((v%1000000000000000000:Nat):Int):=by rw[d4];rfl
  have hml:v%1000000000000000000<1000000000000000000:=OH _ A4
  generalize hR:v%1000000000000000000=R at*
  refine Du (λs=>s=Am R) ?_ ?_
  rotate_left
  ·intro k hk;refine Ad (λhe=>?_)<|λhe=>?_
   ·have he:=An he;have hm1:m.length<=1:=d3.len (n:=1) (by rw[d4];unfold Aw;unfold BB;omega);obtain⟨x,rfl⟩:∃x,m=[x]:=by
     cases m with
     |nil=>simp at he
     |cons x t=>cases t with
      |nil=>exact⟨x,rfl⟩
      |cons _ _=>simp at hm1
    have ex:x=(R:Int):=by rw[<-d4];simp[AJ]
    subst ex;have ef:iV (R:Int) 10=some (Am R):=by
     unfold iV H4;rw[B0 (show(0:Int)<=(R:Int) by omega),B0 (show((R:Nat):Int)<18446744073709551616 by omega)]
     rfl
    exact A5 (show AA [(R:Int)] 0=some (R:Int) from rfl)<|A5 ef<|hk _ rfl
   ·have he:=BQ he;have hm0:m=[]:=Js A4;subst hm0;have:R=0:=by
     have:(0:Int)=(R:Int):=d4;omega
    subst this;exact hk _ rfl
  rintro s rfl;have hsl:=ahQ hml;refine Du (λs=>s.length<=18/\Am v=(if v/1000000000000000000=0 then [] else Am (v/1000000000000000000))++s) ?_ ?_
  rotate_left
  ·intro k hk;refine Ad (λhe=>?_)<|λhe=>?_
   ·have he:=An he;have hq0:v/1000000000000000000≠0:=by
     intro e;have:=d1.pos (by intro e';rw[e'] at he;simp at he);rw[d2,e] at this;simp at this
    have er:iU [48] ((18:Int)-((Am R).length:Int))=some (List.replicate (18-(Am R).length) 48):=by
     unfold iU;rw[B0 (show(0:Int)<=(18:Int)-((Am R).length:Int) by omega),B0 (show(18:Int)-((Am R).length:Int)<=64 by omega)];show some (jZ [48] ((18:Int)-((Am R).length:Int)).toNat)=_;rw[zR]
     congr 2
     omega
    have es:IN (List.replicate (18-(Am R).length) 48) (Am R)=some (IP 18 R):=by
     unfold IN;rw[B0 (by rw[NT];omega)];rfl
    refine A5 BC<|A5 er<|A5 es<|hk _ ⟨?_,?_⟩
    ·unfold IP;rw[ED,NT];omega
    ·rw[if_neg hq0];have:=nK 18 (v/1000000000000000000) R A4 A4 (by simpa using hml);rw[show(10:Nat)^18=1000000000000000000 from rfl] at this;rw[<-this]
     congr 1
     omega
   ·have he:=BQ he;have hq:q=[]:=Js A4;subst hq;have hq0:v/1000000000000000000=0:=by
     have:(0:Int)=((v/1000000000000000000:Nat):Int):=d2;omega
    refine hk _ ⟨hsl,?_⟩;rw[if_pos hq0,Ii]
    congr 1
    omega
  rintro s ⟨s1,s2⟩;have ea:BH 16 l [s]=some (l++[s]):=by
   unfold BH;simp only[Ij];rw[B0 A4,B0 A4];rfl
  have acQ:v/1000000000000000000≠0->Nat.log2 (v/1000000000000000000)+1<=Nat.log2 v:=by
   intro hne;have:=(YY hne).1;have h2:2^(Nat.log2 (v/1000000000000000000)+1)<=v:=by rw[Rs];omega
   exact pz h2
  refine A5 ea<|hn _ ⟨d1,?_,v/1000000000000000000,d2,A4,?_,?_⟩ ?_
  ·grind
  ·grind
  ·grind
  ·grind
 ·have hd:=BQ hd;have hw0:w=[]:=Js A4;subst hw0;have I2:v=0:=by
   have:(0:Int)=(v:Int):=h3;omega
  subst I2;rw[if_pos rfl] at h5 h6;rw[Ii] at h6;have hfl:=yo (l:=l.reverse)<|λx hx=>h2 x<|List.mem_reverse.1 hx
  rw[List.length_reverse] at hfl;have bw:∀a b:AB,a.length+b.length<=140737488355328->Vl a b=some (a++b,(b.length:Int),()):=by
   intro a b JJ;unfold Vl;rw[show Nat.ble (a.length+b.length) 140737488355328=true from IE JJ];rfl
  refine Du (λs=>s.length<=1/\s++Am z.natAbs=Bo z) ?_ ?_
  rotate_left
  ·intro k hk;cases Iq:decide (z<0) with
   |true=>
    rw[Iq] at p1;subst p1;have et:Bo z=45::Am z.natAbs:=by unfold Bo;rw[Iq];rfl
    refine Ad (λ_=>A5 (bw [] [45] AS) (hk ([]++[45]) ⟨AS,by rw[et];rfl⟩)) (λh=>by cases h)
   |false=>
    rw[Iq] at p1;subst p1;have et:Bo z=Am z.natAbs:=by unfold Bo;rw[Iq];rfl
    exact Ad (λh=>by cases h) (λ_=>hk [] ⟨AS,by rw[et];rfl⟩)
  rintro pre ⟨e1,e2⟩;refine A5 BC ?_;refine Ea (λt:AB×Int=> -1<=t.2/\t.2<l.length/\t.1=pre++(l.drop (t.2+1).toNat).reverse.flatten) (λt:AB×Int=>(t.2+1).toNat) ?_ _ _ ⟨Au,Au,?_⟩ Au
  rotate_left
  ·dsimp only;rw[show((l.length:Int)-1+1).toNat=l.length from by omega,Rz];simp
  rintro HG ⟨b,i⟩ ⟨g1,g2,g3⟩ IY;dsimp only at g1 g2 g3 IY⊢;refine Ad (λhp=>?_)<|λhp=>?_
  ·have hp:=An hp;obtain⟨n,rfl⟩:=F8 hp;have H9:n<l.length:=A4;have ex:AA l (n:Int)=some l[n]:=by
    show l[n]? =_;exact Gy H9
   have avB:l[n].length<=18:=h2 _<|L0 H9
   have atV:=yo (l:=(l.drop (((n:Nat):Int)+1).toNat).reverse)<|λx hx=>h2 x<|Tx<|List.mem_reverse.1 hx
   rw[List.length_reverse,IC] at atV;refine A5 ex (A5 ex (A5 (bw b l[n] (by rw[g3,ED];omega))<|A5 BC<|IY _ ⟨Au,Au,?_⟩ Au));dsimp only;rw[show(((n:Nat):Int)-1+1).toNat=n from by omega,g3,show(((n:Nat):Int)+1).toNat=n+1 from by omega,alA (x:=l[n])<|Gy H9,ID]
  ·have hp:=BQ hp;have hi:i= -1:=A4;subst hi;have g3:b=pre++l.reverse.flatten:=g3;have eb:b=Bo z:=by rw[g3,<-h6,e2]
   have hne:(!b.isEmpty)=true:=by
    rw[eb];have hd:Am z.natAbs≠[]:=λe=>by
     by_cases h:z.natAbs<10
     ·rw[OD h] at e;cases e
     ·rw[RZ h] at e;simp at e
    unfold Bo;cases decide (z<0) with
    |true=>rfl
    |false=>
     show(!(Am z.natAbs).isEmpty)=true;cases h:Am z.natAbs with
     |nil=>exact absurd h hd
     |cons _ _=>rfl
   refine A5 (show YX b=some b by unfold YX;rw[hne];rfl)<|AU ?_
   exact eb
def G6(n:Nat)(k:Nat):Prop:=Nat.log2 n<k
def alj(ha:G6 a j)(hb:G6 b k):G6 (a*b) (j+k+1):=by
 unfold G6 at*;by_cases h0:a=0
 ·subst h0;simp
 by_cases h1:b=0
 ·subst h1;simp
 have h2:=(YY h0).2;have h3:=(YY h1).2;have h4:a*b<2^(Nat.log2 a+1)*2^(Nat.log2 b+1):=Nat.mul_lt_mul'' h2 h3;rw[<-M9] at h4;have:=(PF<|Nat.mul_ne_zero h0 h1).2 h4;omega
def alk(ha:G6 a k)(hb:G6 b k):G6 (a+b) (k+1):=by
 unfold G6 at*;by_cases h0:a+b=0
 ·rw[h0];simp
 have h2:a<2^k:=by
  by_cases h:a=0
  ·subst h;exact ZF _
  ·exact(PF h).1 ha
 have h3:b<2^k:=by
  by_cases h:b=0
  ·subst h;exact ZF _
  ·exact(PF h).1 hb
 exact(PF h0).2 (by rw[Rs];omega)
def ajZ(h:a<=b)(hb:G6 b k):G6 a k:=Nat.lt_of_le_of_lt (zq h) hb
theorem SF(h:G6 z.natAbs k)(hk:k<=1099511627776):Cn z=true:=by(simp_all [G6,Cn]<;>omega)
theorem TR{q:Rat}(h:FE q=true):G6 q.num.natAbs 68719476736/\G6 q.den 68719476736:=by simp_all [FE,G6]
theorem JU{q:Rat}(h:G6 q.den k):G6 ((q.den:Int)).natAbs k:=by grind
def QW{a b:Int}(ha:G6 a.natAbs 68719476736)(hb:G6 b.natAbs 68719476736):G6 (a*b).natAbs 137438953473:=by
 rw[JS];exact alj ha hb
def ant{a b:Int}(ha:G6 a.natAbs 137438953473)(hb:G6 b.natAbs 137438953473):G6 (a+b).natAbs 137438953474:=
 ajZ (qD a b) (alk ha hb)
def aaO{x y:Int}(hx:G6 x.natAbs j)(hy:G6 y.natAbs k)(hj:j<=1099511627776)(hk:k<=1099511627776):Sk x y=some (x+y):=by
 unfold Sk;rw[SF hx hj,SF hy hk];rfl
def U9{x y:Int}(hx:G6 x.natAbs j)(hy:G6 y.natAbs k)(hj:j<=1099511627776)(hk:k<=1099511627776):K0 x y=some (x*y):=by
 unfold K0;rw[SF hx hj,SF hy hk];rfl
def ani{x y:Int}(hx:G6 x.natAbs j)(hy:G6 y.natAbs k)(hj:j<=1099511627776)(hk:k<=1099511627776):ay x y=some (Uf x y):=by
 unfold ay;rw[SF hx hj,SF hy hk];rfl
def oq{x y:Int}(hx:G6 x.natAbs j)(hy:G6 y.natAbs k)(hj:j<=1099511627776)(hk:k<=1099511627776)(h0:y≠0):Od x y=some ((x:Rat)/(y:Rat)):=by
 unfold Od;rw[SF hx hj,SF hy hk,Bl h0];rfl
def yY(q:Rat):mkq q.num q.den=some q:=by
 obtain⟨d,hd⟩:∃d,q.den=d+1:=⟨q.den-1,by have:=q.den_pos;omega⟩;unfold mkq;have hr:=q.reduced;unfold Nat.Coprime at hr;rw[hd] at hr⊢;show EV (Nat.beq (Nat.gcd q.num.natAbs<|d+1) 1) (mkRat q.num<|d+1)=_;rw[hr,<-hd,Vy];rfl
def Yw(x y:Rat):(((x.num*y.den+y.num*x.den:Int)):Rat)/(((x.den:Int)*(y.den:Int):Int):Rat)=x+y:=by
 have h:=Rat.mkRat_add_mkRat x.num y.num x.den_nz y.den_nz;rw[Vy,Vy,Rat.mkRat_eq_div] at h;rw[h,<-NL];rfl
def Yv(x y:Rat):(((x.num*y.num:Int)):Rat)/(((x.den:Int)*(y.den:Int):Int):Rat)=x*y:=by
 have h:=Rat.mkRat_mul_mkRat x.num y.num x.den y.den;rw[Vy,Vy,Rat.mkRat_eq_div] at h;rw[h,<-NL];rfl
def xO(h:x.den=1):x=(x.num:Rat):=by
 have h1:=Vy x;rw[h] at h1;rw[<-Rat.mkRat_one,h1]
def L4(x:Rat):(x.den:Int)≠0:=by have:=x.den_pos;omega
def akq(x:Rat):l5 x=some (-x):=by
 unfold l5;show bd (mkq (-x.num) x.den) _=_;have:=yY<| -x
 rw[Rat.neg_num,Rat.neg_den] at this;rw[this];rfl
def ahK(z:Int):mQ z=some (z:Rat):=by
 unfold mQ;show bd (mkq z 1) _=_;have:=yY (z:Rat);rw[PL,Rw] at this;rw[show((1:Nat):Int)=1 from rfl] at this;rw[this];rfl
def akv(hx:FE x=true)(hy:FE y=true):lD x y=some (x+y):=by
 obtain⟨a1,a2⟩:=TR hx;obtain⟨b1,b2⟩:=TR hy;have aa2:(bd (K0 x.num (y.den:Int)) λB9=>
  bd (K0 y.num (x.den:Int)) λBI=>
  bd (Sk B9 BI) λBj=>
  bd (K0 (x.den:Int) (y.den:Int)) λBW=>
  bd (Od Bj BW) λBz=>
  some Bz)=some (x+y):=by
  rw[U9 a1 (JU b2) A4 A4];show bd (K0 y.num (x.den:Int)) _=_;rw[U9 b1 (JU a2) A4 A4];show bd (Sk _ _) _=_;rw[aaO (QW a1<|JU b2) (QW b1<|JU a2) A4 A4];show bd (K0 (x.den:Int) (y.den:Int)) _=_;rw[U9 (JU a2) (JU b2) A4 A4];show bd (Od _ _) _=_;rw[oq (ant (QW a1<|JU b2)<|QW b1<|JU a2) (QW (JU a2)<|JU b2) A4 A4<|Rv (L4 x)<|L4 y,Yw];rfl
 unfold lD;by_cases h1:x.den=1
 ·by_cases h2:y.den=1
  ·have e1:LU x=some true:=by unfold LU;rw[B0 h1]
   have e2:LU y=some true:=by unfold LU;rw[B0 h2]
   rw[e1,e2];show bd (Sk x.num y.num) _=_;rw[aaO a1 b1 A4 A4];show some ((x.num+y.num:Int):Rat)=_;rw[Rat.intCast_add,<-xO h1,<-xO h2]
  ·have e1:LU x=some true:=by unfold LU;rw[B0 h1]
   have e2:LU y=some false:=by unfold LU;rw[Bl h2]
   rw[e1,e2];exact aa2
 ·have e1:LU x=some false:=by unfold LU;rw[Bl h1]
  rw[e1];exact aa2
def akr(hx:FE x=true)(hy:FE y=true):l6 x y=some (x*y):=by
 obtain⟨a1,a2⟩:=TR hx;obtain⟨b1,b2⟩:=TR hy;unfold l6;rw[U9 a1 b1 A4 A4];show bd (K0 (x.den:Int) (y.den:Int)) _=_;rw[U9 (JU a2) (JU b2) A4 A4];show bd (Od _ _) _=_;rw[oq (QW a1 b1) (QW (JU a2)<|JU b2) A4 A4<|Rv (L4 x)<|L4 y,Yv];rfl
theorem alh(y:Rat):FE (-y)=FE y:=by simp_all [FE]
def akp(hx:FE x=true)(hy:FE y=true):ky x y=some (x-y):=by
 unfold ky;show bd (Lk x<| -y) _=_;unfold Lk;rw[hx,alh,hy];show some (x+ -y)=_;rw[gZ]
def aks(hx:FE x=true)(h0:x≠0):l7 x=some x⁻¹ :=by
 obtain⟨a1,a2⟩:=TR hx;unfold l7;rw[oq (JU a2) a1 A4 A4 (by intro e;exact h0<|NK.1 e),Rat.inv_def,OL];rfl
theorem ali(h:FE y=true)(h0:y≠0):FE y⁻¹ =true:=by(simp_all [FE]<;>grind)
def akt(hx:FE x=true)(hy:FE y=true)(h0:y≠0):l8 x y=some (x/y):=by
 unfold l8;have e1:aY y=some y⁻¹ :=by unfold aY;rw[hy,Bl h0];rfl
 have e2:GG x y⁻¹ =some (x*y⁻¹):=by unfold GG;rw[hx,ali hy h0];rfl
 rw[e1];show bd (GG x y⁻¹) _=_;rw[e2,Tg];rfl
def aku(hx:FE x=true)(hy:FE y=true):lC x y=some (bif decide (x<y) then -1 else bif decide (y<x) then 1 else 0):=by
 obtain⟨a1,a2⟩:=TR hx;obtain⟨b1,b2⟩:=TR hy;unfold lC;rw[U9 a1 (JU b2) A4 A4];show bd (K0 y.num (x.den:Int)) _=_;rw[U9 b1 (JU a2) A4 A4];show bd (ay _ _) _=_;rw[ani (QW a1<|JU b2) (QW b1<|JU a2) A4 A4];show some (Uf _ _)=_;unfold Uf;have e1:decide (x.num*(y.den:Int)<y.num*(x.den:Int))=decide (x<y):=Gf.2 (Rat.lt_iff x y).symm;have e2:decide (y.num*(x.den:Int)<x.num*(y.den:Int))=decide (y<x):=Gf.2 (Rat.lt_iff y x).symm;rw[e1,e2]
def ajA(hx:FE x=true)(hy:FE y=true):kd x y=some (decide<|x=y):=by
 unfold kd;have e:Og x y=some (bif decide (x<y) then -1 else bif decide (y<x) then 1 else 0):=by unfold Og;rw[hx,hy];rfl
 rw[e];show some (decide<|(bif decide (x<y) then(-1:Int) else bif decide (y<x) then 1 else 0)=0)=_
 congr 1
 by_cases h1:x<y
 ·rw[B0 h1,Bl (show¬x=y from λe=>by subst e;exact absurd h1<|Rat.lt_irrefl)];rfl
 ·by_cases h2:y<x
  ·rw[Bl h1,B0 h2,Bl (show¬x=y from λe=>by subst e;exact absurd h2<|Rat.lt_irrefl)];rfl
  ·rw[Bl h1,Bl h2,B0<|show x=y from Rat.le_antisymm (Rat.not_lt.1 h2) (Rat.not_lt.1 h1)];rfl
end
section
open Go.Shelf
variable[D:DR]{P:Program}{ρ:Ren}
def wo(cs:B6 AR)(n:Nat):(Builtin.zeroCells cs n).size=n*cs.size:=by
 simp[Builtin.zeroCells]
def aj9(L:Lays8.n4 P ρ){α:Type}{f:α->Ty}{sz:Nat}{i0:TypeInfo}{z:AR}(hi0:P.info? (ρ.t 25)=some i0)(hz0:i0.zero=some z)(hs:i0.size=sz)(hs0:0<sz)(hz:z.cells.size=sz)(hb:i0.bytes<=1000)
  (hc:GL P (ρ.f 4)=true){x r:A3 α}{n:Int}(hm:qp x n=some r):E0 P (ρ.f 4) [TN f x,TI .i64 n] (.fr (ρ.t 25) sz<|lT f r):=by
 obtain⟨hg,rfl⟩:=HC hm;rw[Bx,Bx] at hg;obtain⟨⟨h1,h2⟩,h3⟩:=hg;have h2:=An h2;have h3:=An h3;have hx:=W8.1 h1;subst hx;refine⟨hc,λw H vs sub gl ha=>?_⟩;obtain⟨v,u,rfl,hv,hu⟩:=Tc ha;have hv:v= .slice none 0 0:=hv.2 rfl;have hu:u= .int .i64 n:=hu;subst hv hu;obtain⟨m,rfl⟩:∃m:Nat,n=(m:Int):=⟨n.toNat,A4⟩;show Calls P (ρ.f 4) #[.slice none 0 0,.int .i64 m] w _;rcases L2 m with h0|h0
 ·subst h0;refine(Any8.slices_Grow_room L none 0 0 0 w (BM _) A4 A4 A4).mono ?_;rintro e w' ⟨rfl,rfl⟩;exact⟨_,rfl,FL.refl _ _,H,λ_ _=>rfl,sub,[],World.ownsRow_nil w' _ _ _,rfl,λb h=>by simp[Value.ownBlock] at h⟩
 ·refine(Any8.slices_Grow_grow L i0 z hi0 hz0 A4 none 0 0 m [] w (BM _) A4 (Ca (GB (show 0+m<=100000000 by omega) hb) A4) A4 AS (λ_=>rfl) (λa h=>by cases h)).mono ?_;rintro e w' ⟨rfl,rfl⟩;have hG:=grownCap_ge w (0+m) 0<|ρ.t 25
  have hM:=grownCap_le_maxLen w (0+m) 0 (ρ.t 25) (by unfold maxLen;omega)
  generalize grownCap w (0+m) 0 (ρ.t 25)=G at*
  generalize ho:Obj.cells (([]:A3 AR).toArray++Builtin.zeroCells z.cells (0+m-0)++Builtin.zeroCells z.cells (G-(0+m))) (ρ.t 25)=o
  have abj:∀k,k<w.heap.size->(w.drew.alloc o).heap[k]? =w.heap[k]? :=λk hk=>Below.heap_alloc w.drew o k hk
  refine⟨_,rfl,⟨⟨rfl,rfl,rfl,(FL.alloc (w:=w.drew) o).size,abj⟩,?_⟩,H,λ_ _=>rfl,λr o hr=>?_,[],⟨AS,.inr ⟨w.heap.size,G,_,rfl,FM _,(Lc w.drew o).trans<|congrArg some ho.symm,FM _,hM,?_,by simp[lT]⟩⟩,rfl,λb hb=>?_⟩
  ·exact Gu.of<|QG _
  ·have:=sub r o hr;rw[abj r (by
    rcases Hp r w.heap.size with h|h
    ·exact h
    ·rw[hZ h] at this;cases this)]
   exact this
  ·rw[Array.size_append,Array.size_append,wo,wo,hz];simp only[WB,W6,PH,Nat.sub_zero];rw[<-JR]
   congr 1;omega
  ·have e:b=w.heap.size:=by
    simp[Value.ownBlock] at hb;exact hb.symm
   subst e;refine⟨BM _,?_⟩;cases hH:H w.heap.size with
   |none=>rfl
   |some o=>
    have:=sub _ o hH;rw[hZ<|BM _] at this;cases this
end
end Trn
namespace Ol
section
open Go.Shelf Go.Sort Go.Lib
def agd(w:World)(T:TypeId)(nd:Nat)(hs:nd<=24):Holds (λ(b:UInt8)=>Value.int .u8 (b.toNat:Int)) (w.alloc<| .cells zeros24 T) w.heap.size 0 (Array.replicate nd (0:UInt8)):=λj hj=>by
 have hj':j<nd:=by simpa using hj
 refine⟨?_,World.frozen?_alloc_new _ _ _ _⟩;rw[World.cell?_alloc_new,Nat.zero_add,zeros24_at _ Trn.A4,getElem!_pos _ j hj];simp
def al3(w:World)(o:Obj)(dk:Array UInt8)(k:Nat):∃os,(putRow (λ(b:UInt8)=>Value.int .u8 (b.toNat:Int)) (w.alloc o) w.heap.size 0 dk).drewN k=Go.Sort.grow (w.drewN k) os:=by
 rw[alloc_eq_grow];obtain⟨os',_,e⟩:=putRow_grow_new (λ(b:UInt8)=>Value.int .u8 (b.toNat:Int)) w #[o] w.heap.size 0 dk (Nat.le_refl _);exact⟨os',by rw[e];rfl⟩
set_option maxHeartbeats 6400000 in
set_option maxRecDepth 100000 in
def ahL(u:Nat)(hu64:u<18446744073709551616)(w:World)
  (htab:Lib.TabIs prog w "internal/strconv.uint64pow10" .u64 Lib.pow10Tab):
  Calls prog 332 #[.int .u64 u,.int .i64 10] w λe w'=>e= .returned (.string ⟨(Lib.decDigits u).toArray⟩)/\∃k os,w'=Go.Sort.grow (w.drewN k) os:=by
 have L:=ye;have mixed:=L.mixed;have t2:prog.underlying 3=some (.int .i64):=L.t3;have t446:prog.underlying 390=some (.array 24 5):=L.t171;have a446:∀w:World,(isAgg 390).run prog w= .ok true w:=L.a171;have z446:∀w:World,(Go.sizeOf 390).run prog w= .ok 24 w:=L.z171;have v446:=L.v171;have v446:∀w:World,(zeroValue 390).run prog w= .ok (.agg #[.int .u8 0,.int .u8 0,.int .u8 0,.int .u8 0,.int .u8 0,.int .u8 0,.int .u8 0,.int .u8 0,.int .u8 0,.int .u8 0,.int .u8 0,.int .u8 0,.int .u8 0,.int .u8 0,.int .u8 0,.int .u8 0,.int .u8 0,.int .u8 0,.int .u8 0,.int .u8 0,.int .u8 0,.int .u8 0,.int .u8 0,.int .u8 0]) w:=v446;have t9:=L.t9;have t154:prog.underlying 338=some (.slice 5):=L.t37;have e283:∀args w,(callFunc 360 args).run prog w= .ok (.enter 360 args) w:=enters_of L.f283 Trn.A6 rfl;have e284:∀args w,(callFunc 361 args).run prog w= .ok (.enter 361 args) w:=enters_of L.f284 Trn.A6 rfl;have e285:∀args w,(callFunc 362 args).run prog w= .ok (.enter 362 args) w:=enters_of L.f285 Trn.A6 rfl;by_cases hs:u<100
 ·go_enter func332,ntmps332
  go_wp2_with (go_at_fn (360);refine(internal_strconv_small u hs _).mono ?_;rintro e w' ⟨rfl,rfl⟩)
  go_ret
  exact⟨rfl,0,#[],by simp[World.drewN_zero]⟩
 ·have hu1:1<=u:=Trn.A4;have hnd20:Lib.nDigits u<=20:=by have:=Lib.numDigits_eq u hu1 hu64;split at this<;>omega
  have hb3:Lib.nDigits u<=23:=Trn.A4;have hal:prog.arrayLen 390=24:=by simp[Program.arrayLen,t446]
  have hsl:∀W,(Instr.sliceAt 390 (.pointer<|some ⟨w.heap.size,0,none⟩) none (some<| .int .i64 (Lib.nDigits u:Int)) none).run prog W= .ok (.slice (some ⟨w.heap.size,0,none⟩) (Lib.nDigits u) 24) W:=λW=>by
   rw[run_sliceAt_array_h W 390 ⟨w.heap.size,0,none⟩ (by simp[Program.arrayLen,Program.elem,t446]) .i64 (Lib.nDigits u:Int) Trn.A4 (by rw[hal];omega)]
   go_simp
  have hH0:=agd w 390 (Lib.nDigits u) Trn.A4;have hfmt:=internal_strconv_formatBase10 w.heap.size 0 24 u (Array.replicate (Lib.nDigits u) 0) (w.alloc<| .cells Lib.zeros24 390) hH0 (by rw[Array.size_replicate];exact Lib.lt_pow_nDigits u) hu64 (by rw[Array.size_replicate];omega);rw[Array.size_replicate] at hfmt;have HH0:=Lib.hid hH0;clear hH0 hal
  go_enter func332,ntmps332
  go_wp2_with (first
   |(go_at_fn (361);refine(Any.internal_strconv_numDigits {L with} u hu1 hu64 _<|Lib.tabIs_alloc htab _).mono ?_;rintro e w' ⟨rfl,rfl⟩))
  go_at_fn (362)
  refine hfmt.mono ?_;rintro e w' ⟨rfl,k,v',dk,rfl,hF⟩;have hcv:(convert 338 9<| .slice (some ⟨w.heap.size,0,none⟩) (Lib.nDigits u) 24).run prog ((putRow (λ(b:UInt8)=>Value.int .u8 (b.toNat:Int)) (w.alloc<| .cells Lib.zeros24 390) w.heap.size 0 dk).drewN k)= .ok (.string ⟨(Lib.decDigits u).toArray⟩) ((putRow (λ(b:UInt8)=>Value.int .u8 (b.toNat:Int)) (w.alloc<| .cells Lib.zeros24 390) w.heap.size 0 dk).drewN k):=by
   have h:=run_convert_bytes_back (P:=prog) ((putRow (λ(b:UInt8)=>Value.int .u8 (b.toNat:Int)) (w.alloc<| .cells Lib.zeros24 390) w.heap.size 0 dk).drewN k) 338 9 5 ⟨w.heap.size,0,none⟩ 24 (Lib.decDigits u) L.t37 L.t5 L.t9 (λj hj=>by
    rw[Lib.row_is_numeral hF j hj,Lib.add_plain,World.cell?_drewN];exact cell?_putRow (λ(b:UInt8)=>Value.int .u8 (b.toNat:Int)) _ w.heap.size 0 _ dk HH0.out (by rw[hF.size,Array.size_replicate]) j (by rw[hF.size];rw[Lib.decDigits_length] at hj;exact hj))
   rw[Lib.decDigits_length] at h;exact h
  go_wp2
  go_ret
  obtain⟨os,eo⟩:=al3 w (.cells Lib.zeros24 390) dk k;exact⟨rfl,k,os,eo⟩
set_option maxHeartbeats 6400000 in
set_option maxRecDepth 100000 in
def afY(u:Nat)(hu64:u<18446744073709551616)(w:World)
  (htab:Lib.TabIs prog w "internal/strconv.uint64pow10" .u64 Lib.pow10Tab):
  Calls prog 294 #[.int .u64 u,.int .i64 10] w λe w'=>e= .returned (.string ⟨(Lib.decDigits u).toArray⟩)/\∃k os,w'=Go.Sort.grow (w.drewN k) os:=by
 have L:=ye;have mixed:=L.mixed;have e316:∀args w,(callFunc 332 args).run prog w= .ok (.enter 332 args) w:=enters_of func332 Trn.A6 rfl;have h:=ahL u hu64 w htab
 go_enter func294,ntmps294
 go_wp2_with (go_at_fn (332);refine h.mono ?_;rintro e w' ⟨rfl,k,os,rfl⟩)
 go_ret
 exact⟨rfl,k,os,rfl⟩
def wU(w:World):∀k,(w.drewN k).os=w.os/\(w.drewN k).tape=w.tape/\(w.drewN k).output=w.output/\(w.drewN k).heap=w.heap
 |0=>⟨rfl,rfl,rfl,rfl⟩
 |k+1=>wU w.drew k
def wj{w:World}{k:Nat}{os:Array Obj}:Below w.heap.size w (Go.Sort.grow (w.drewN k) os):=by
 obtain⟨h1,h2,h3,h4⟩:=wU w k;refine⟨h1,h2,h3,?_,λi hi=>?_⟩
 ·show w.heap.size<=((w.drewN k).heap++os).size;rw[h4,Array.size_append];omega
 ·show((w.drewN k).heap++os)[i]? =_;rw[h4,Array.getElem?_append_left hi]
end
end Ol
namespace Trn
section
variable{α ρ σ:Type}{r:ρ}
def UQ(x:α)(K:α->A9 ρ):bd (some x) K=K x:=rfl
def acX{n:Nat}(h:n<=9223372036854775807):AG (n:Int)=some (n:Int):=by
 unfold AG Hd;rw[B0 (show(-9223372036854775808:Int)<=(n:Int) by omega),B0 (show(n:Int)<=9223372036854775807 by omega)];rfl
def aav{σ ρ α:Type}(L:A3 α)(Bd:(σ->A9 ρ)->α->σ->A9 ρ)(K:σ->A9 ρ)(B:((σ×Int)->A9 ρ)->σ×Int->A9 ρ)(o:Nat)
  (j9:∀k u (i:Nat) x,L[i]? =some x->B k (u,((i+o:Nat):Int))=Bd (λu'=>k (u',((i+1+o:Nat):Int))) x u)
  (hend:∀k u,B k (u,((L.length+o:Nat):Int))=K u):
  ∀(F i:Nat) (u:σ),i<=L.length->L.length-i<F->lp F B (u,((i+o:Nat):Int))=IW (L.drop i) Bd u K
 |0,i,u,_,h=>by omega
 |F+1,i,u,hi,hF=>by
  show B (lp F B) (u,_)=_;rcases Hp i L.length with h|h
  ·rw[U4 h];show _=Bd (λs=>IW (L.drop<|i+1) Bd s K) L[i] u;rw[j9 _ _ i L[i]<|Gy h]
   congr 1
   funext u'
   exact aav L Bd K B o j9 hend F (i+1) u' A4 A4
  ·have:i=L.length:=A4;subst this;rw[hend,Rz];rfl
def zn(L:A3 α)(Bd:(σ->A9 ρ)->α->σ->A9 ρ)(K:σ->A9 ρ)(o:Nat){B:((σ×Int)->A9 ρ)->σ×Int->A9 ρ}{z:Int}{F:Nat}{u:σ}(hz:z=(o:Int))(hF:L.length<F)(hm:IW L Bd u K=some r)
 (j9:∀k u (i:Nat) x,L[i]? =some x->B k (u,((i+o:Nat):Int))=Bd (λu'=>k (u',((i+1+o:Nat):Int))) x u)
 (hend:∀k u,B k (u,((L.length+o:Nat):Int))=K u):lp F B (u,z)=some r:=by
 have h:=aav L Bd K B o j9 hend F 0 u (FM _) hF;rw[PH] at h;rw[hz,h];exact hm
theorem yj{b:Bool}{x r:α}(h:EV b x=some r):b=true/\x=r:=by grind [EV]
def KW(l:A3 α)(i:Nat):AA l (i:Int)=l[i]? :=rfl
def aeW{c0:A3 V3}{L:A3 (V3)}(ho:VW c0=some L)(Bd:(σ->A9 ρ)->V3->σ->A9 ρ)(K:σ->A9 ρ)(u:σ)(hm:IW L Bd u K=some r):js c0 Bd K u=some r:=by
 obtain⟨hb,rfl⟩:=yj ho;have hb:c0.length<4000000000:=F1 hb;unfold js;refine zn c0 Bd K 0 rfl A4 hm ?_ ?_
 ·intro k u i x hx;have hi:i<c0.length:=(GD.1 hx).1;dsimp only;rw[B0 (show((i+0:Nat):Int)<(c0.length:Int) by omega)];rw[Bf,KW,Tk,hx,UQ];refine congrArg (λf=>Bd f x u)<|funext λu'=>?_
  rw[show(((i:Nat):Int)+1)=((i+1+0:Nat):Int) from by omega,acX A4,UQ]
 ·intro k u;dsimp only;rw[Bl A4];rfl
def oQ{l:A3 α}{i:Nat}{x:α×α}(h:(Rm l)[i]? =some x):l[i]? =some x.1/\l[(i+1)%l.length]? =some x.2/\i<l.length:=by
 cases l with
 |nil=>simp[Rm] at h
 |cons a l=>
  unfold Rm at h;rw[qL] at h;obtain⟨h1,h2⟩:=h;have hi:i<(a::l).length:=(GD.1 h1).1;refine⟨h1,?_,hi⟩;simp only[Dj] at hi⊢;rcases Hp i l.length with h3|h3
  ·rw[S1 A4,List.getElem?_cons_succ];rw[MG h3] at h2;exact h2
  ·have:i=l.length:=A4;subst this;rw[Nat.mod_self];rw[NU<|BM _,q9] at h2;exact h2
theorem YW(l:A3 α):(Rm l).length=l.length:=by(simp_all [Rm]<;>grind)
def af1{c0:A3 V3}{L:A3 ((V3×V3))}(ho:Rc c0=some L)(Bd:(σ->A9 ρ)->(V3×V3)->σ->A9 ρ)(K:σ->A9 ρ)(u:σ)(hm:IW L Bd u K=some r):kY c0 Bd K u=some r:=by
 obtain⟨hb,rfl⟩:=yj ho;have hb:c0.length<1000000000:=F1 hb;unfold kY;refine zn (Rm c0) Bd K 0 rfl (by rw[YW];omega) hm ?_ ?_
 ·intro k u i x hx;obtain⟨h1,h2,hi⟩:=oQ hx;dsimp only;rw[B0 (show((i+0:Nat):Int)<(c0.length:Int) by omega)];have ef:AG (((i:Nat):Int)+1)=some ((i+1+0:Nat):Int):=by
   rw[show(((i:Nat):Int)+1)=((i+1+0:Nat):Int) from by omega,acX A4]
  have er:Fy ((i+1+0:Nat):Int) (c0.length:Int)=some (((i+1)%c0.length:Nat):Int):=by
   unfold Fy;rw[Bl A4,B8,Int.tmod_eq_emod_of_nonneg A4];rfl
  rw[Bf,KW,Tk,h1,UQ,ef,UQ,er,UQ,KW,h2,UQ];refine congrArg (λf=>Bd f (x.1,x.2) u)<|funext λu'=>?_
  rw[UQ]
 ·intro k u;dsimp only;rw[Bl (by rw[YW];omega)];rfl
end
section
variable{P:Program}
variable{α:Type}{dep:Nat}{T:Ah}{n:Nat}{fs:A3 (Ah×Nat)}{IT:α->A3 Ty}{eb:α->α->Bool}{f:α->Ty}{off:Nat}
structure JF(P:C7)(T:Ah){α:Type}[DecidableEq α](f:α->Ty)(n:Nat)(agg:Bool)(dep:Nat):Prop where
 lay:Bm P T n agg=true
 sz:∀x,(f x).n=n
 ag:∀x,(f x).agg=agg
 eq:∀(d:Nat) (H:HV) (u v:AR) (x y:α),(f x).ok H u->(f y).ok H v->∀w:AQ,(Op.equalIn (d+dep) T u v).run P w= .ok (decide<|x=y) w
 chk:∀(d:Nat) (e:Bool) (H:HV) (u:AR) (x:α),(f x).ok H u->∀w:AQ,(Instr.checkKey e (d+dep) T u).run P w= .ok () w
 uniq:∀(H:HV) (u v:AR) (x:α),(f x).ok H u->(f x).ok H v->u=v
 leaf:∀(H:HV) (u:AR) (x:α),(f x).ok H u->∀c∈u.cells.toList,∀m,Instr.sameBits m c c=true
theorem toList_inj{a b:AB}:((⟨a.toArray⟩:ByteArray).toList==(⟨b.toArray⟩:ByteArray).toList)=decide (a=b):=by
 rw[ByteArray.toList_eq,ByteArray.toList_eq];show(a.toArray.toList==b.toArray.toList)=_;simp only[List.toList_toArray];by_cases h:a=b
 ·subst h;simp
 ·grind
def aj0(hl:Bm P T 1 false=true)(hu:P.underlying T=some .string):JF P T TS 1 false 1 where
 lay:=hl
 sz _:=rfl
 ag _:=rfl
 eq d H u v x y hu' LG w:=by
  have hu':u= .string ⟨x.toArray⟩:=hu';have LG:v= .string ⟨y.toArray⟩:=LG;subst hu';subst LG;rw[run_equalIn_string w d T _ _ hu,toList_inj]
 chk d e H u x hu' w:=by
  have hu':u= .string ⟨x.toArray⟩:=hu';subst hu';simp[Instr.checkKey,F0 hu]
 uniq H u v x h1 h2:=Eq.trans h1<|Eq.symm h2
 leaf H u x h c hc m:=by
  have h:u= .string ⟨x.toArray⟩:=h;subst h;have hc:c= .string ⟨x.toArray⟩:=by simpa[Value.cells] using hc
  subst hc;simp only[Instr.sameBits];rw[beq_toListBytes];simp
def aof{k:IntKind}(hl:Bm P T 1 false=true)(hu:P.underlying T=some (.int k)):JF P T (TI k) 1 false 1 where
 lay:=hl
 sz _:=rfl
 ag _:=rfl
 eq d H u v x y hu' LG w:=by
  have hu':u= .int k x:=hu';have LG:v= .int k y:=LG;subst hu';subst LG;rw[run_equalIn_int w d T k k _ _ hu]
  rfl
 chk d e H u x hu' w:=by
  have hu':u= .int k x:=hu';subst hu';simp[Instr.checkKey,F0 hu]
 uniq H u v x h1 h2:=Eq.trans h1<|Eq.symm h2
 leaf H u x h c hc m:=by
  have h:u= .int k x:=h;subst h;have hc:c= .int k x:=by simpa[Value.cells] using hc
  subst hc;simp[Instr.sameBits]
def JF.qz[DecidableEq α]{agg:Bool}{XC:Nat}(h:JF P T f n agg dep)(hd:dep<=XC):JF P T f n agg XC where
 lay:=h.lay
 sz:=h.sz
 ag:=h.ag
 eq d H u v x y h1 h2 w:=by rw[show d+XC=(d+(XC-dep))+dep from by omega];exact h.eq _ H u v x y h1 h2 w
 chk d e H u x h1 w:=by rw[show d+XC=(d+(XC-dep))+dep from by omega];exact h.chk _ e H u x h1 w
 uniq:=h.uniq
 leaf:=h.leaf
inductive Rows(P:C7){α:Type}(dep:Nat):A3 (Ah×Nat)->Nat->(α->A3 Ty)->(α->α->Bool)->Prop where
 |nil {off:Nat}:Rows P dep [] off (λ_=>[]) (λ_ _=>true)
 |cons {T:Ah} {off n:Nat} {agg:Bool} {β:Type} [DecidableEq β] {g:β->Ty} {acc:α->β} {fs:A3 (Ah×Nat)} {IT:α->A3 Ty} {eb:α->α->Bool}:
   JF P T g n agg dep->Rows P dep fs (off+n) IT eb->Rows P dep ((T,off)::fs) off (λx=>g (acc x)::IT x) (λx y=>decide (acc x=acc y)&&eb x y)
def eqL(d:Nat)(xs ys:B6 AR):A3 (Ah×Nat)->Sem Bool
 |[]=>pure true
 |(T,o)::fs=>do
  let a<-part T xs o
  let b<-part T ys o
  let r<-Op.equalIn d T a b
  if(!r)=true then pure false else eqL d xs ys fs
def Pj(e:Bool)(d:Nat)(xs:B6 AR):A3 (Ah×Nat)->Sem Unit
 |[]=>pure ()
 |(T,o)::fs=>do
  let a<-part T xs o
  Instr.checkKey e d T a
  Pj e d xs fs
def ng{agg:Bool}{τ:Ty}{l:A3 Ty}{H:HV}{cs:B6 AR}(hl:Bm P T n agg=true)(hn:τ.n=n)(ha:τ.agg=agg)(h:DJ H (τ::l) (cs.toList.drop off))(ho:off<=cs.size):
  ∃v,(∀w,(part T cs off).run P w= .ok v w)/\τ.ok H v/\DJ H l (cs.toList.drop<|off+n)/\off+n<=cs.size:=by
 have hlen:=Md h;rw[IC,Ex] at hlen;have hc:CH (τ::l)=τ.n+CH l:=rfl;rw[hc,hn] at hlen;have hle:off+n<=cs.size:=A4;obtain⟨v,rest,e,hv,hr⟩:=h;have hs:=τ.shape hv;have e1:(cs.toList.drop off).take n=v.cells.toList:=by
  rw[e,<-hn,<-hs.size,<-Ex,gN]
 refine⟨v,λw=>?_,hv,?_,hle⟩
 ·rw[oN hl hle,e1];have:=hs.eq;rw[ha] at this;rw[Array.toArray_toList];exact congrArg (λz=>Result.ok z w) this.symm
 ·rw[<-FW,e,<-hn,<-hs.size,<-Ex,To];exact hr
theorem alz(h:Rows P dep fs off IT eb):∀(d:Nat) (H:HV) (cs ds:B6 AR) (x y:α),DJ H (IT x) (cs.toList.drop off)->DJ H (IT y) (ds.toList.drop off)->off<=cs.size->off<=ds.size->
  ∀w:AQ,(eqL (d+dep) cs ds fs).run P w= .ok (eb x y) w:=by
 induction h with
 |nil=>intro d H cs ds x y _ _ _ _ w;rfl
 |cons hk hr ih=>
  intro d H cs ds x y h1 h2 o1 o2 w;obtain⟨u,p1,k1,r1,s1⟩:=ng hk.lay (hk.sz _) (hk.ag _) h1 o1;obtain⟨v,p2,k2,r2,s2⟩:=ng hk.lay (hk.sz _) (hk.ag _) h2 o2;unfold eqL;simp only[E4,p1,p2,hk.eq d H u v _ _ k1 k2,Dp];split
  ·rename_i hb;rw[GW] at hb;rw[hb];rfl
  ·grind
def ajr(h:Rows P dep fs off IT eb):∀(d:Nat) (e:Bool) (H:HV) (cs:B6 AR) (x:α),DJ H (IT x) (cs.toList.drop off)->off<=cs.size->
  ∀w:AQ,(Pj e (d+dep) cs fs).run P w= .ok () w:=by
 induction h with
 |nil=>intro d e H cs x _ _ w;rfl
 |cons hk hr ih=>
  intro d e H cs x h1 o1 w;obtain⟨u,p1,k1,r1,s1⟩:=ng hk.lay (hk.sz _) (hk.ag _) h1 o1;unfold Pj;simp only[E4,p1,hk.chk d e H u _ k1,Dp];exact ih d e H cs x r1 s1 w
def aiR(h:Rows P dep fs off IT eb):∀(H:HV) (cs ds:A3 AR) (x:α),DJ H (IT x) cs->DJ H (IT x) ds->cs=ds:=by
 induction h with
 |nil=>intro H cs ds x h1 h2;exact Eq.trans h1<|Eq.symm h2
 |cons hk hr ih=>
  rintro H cs ds x ⟨u,r1,e1,k1,o1⟩ ⟨v,r2,e2,k2,o2⟩;rw[e1,e2,hk.uniq H u v _ k1 k2,ih H r1 r2 x o1 o2]
theorem aiS(h:Rows P dep fs off IT eb):∀(H:HV) (cs:A3 AR) (x:α),DJ H (IT x) cs->∀c∈cs,∀m,Instr.sameBits m c c=true:=by
 induction h with
 |nil=>intro H cs x h1 c hc;rw[show cs=[] from h1] at hc;cases hc
 |cons hk hr ih=>
  rintro H cs x ⟨u,r1,e1,k1,o1⟩ c hc m;rw[e1] at hc;rcases Cp.1 hc with hc|hc
  ·exact hk.leaf H u _ k1 c hc m
  ·grind
def xe(d:Nat)(e:Ah)(c:Nat)(xs ys:B6 AR):∀is:A3 Nat,Op.eqItems d e c xs ys is=eqL d xs ys (is.map λi=>(e,i*c))
 |[]=>rfl
 |i::is=>by
  unfold Op.eqItems;rw[Mf];unfold eqL;simp only[xe d e c xs ys is]
def Zr(fs:A3 Field):Bool:=fs.all λf=>decide<|f.name≠ "_"
def wQ(d:Nat)(xs ys:B6 AR):∀fs:A3 Field,Zr fs=true->Op.eqFields d xs ys fs=eqL d xs ys (fs.map λf=>(f.type,f.offset))
 |[],_=>rfl
 |f::fs,h=>by
  unfold Zr at h;rw[OI,Bx,J7] at h;unfold Op.eqFields;rw[if_pos h.1,Mf];unfold eqL;simp only[wQ d xs ys fs h.2]
def ahX(e:Bool)(d:Nat)(t:Ah)(xs:B6 AR){w:AQ}(ht:P.underlying t=some (.struct<|P.fieldsOf t))(hn:Zr (P.fieldsOf t).toList=true):
  (Instr.checkKey e (d+1) t<| .agg xs).run P w=(Pj e d xs<|(P.fieldsOf t).toList.map λf=>(f.type,f.offset)).run P w:=by
 simp only[Instr.checkKey,E4,KM ht,Dp];rw[<-Array.forIn_toList]
 generalize (P.fieldsOf t).toList=fs at hn
 clear ht
 induction fs generalizing w with
 |nil=>simp[Pj]
 |cons f fs ih=>
  unfold Zr at hn;rw[OI,Bx,J7] at hn;simp only[List.forIn_cons,Mf,Pj,E4,Sem.run_ite,if_pos hn.1]
  generalize (part f.type xs f.offset).run P w=r1
  cases r1 with
  |ok a w1=>
   simp only[Dp]
   generalize (Instr.checkKey e d f.type a).run P w1=r2
   cases r2 with
   |ok b w2=>
    simp only[Dp,Jp];exact ih hn.2
   |halt x w2=>simp[Result.andThen]
  |halt x w1=>simp[Result.andThen]
def ajL(em:Bool)(d:Nat){t e:Ah}{c:Nat}(xs:B6 AR){w:AQ}(hu:P.underlying t=some (.array n e))(hi:∀w,(Go.sizeOf e).run P w= .ok c w):
  (Instr.checkKey em (d+1) t<| .agg xs).run P w=(Pj em d xs<|(List.range n).map λi=>(e,i*c)).run P w:=by
 simp only[Instr.checkKey,E4,KM hu,Dp];simp only[Std.Legacy.Range.forIn_eq_forIn_range',Std.Legacy.Range.size,Nat.sub_zero,Nat.add_one_sub_one,Nat.div_one,List.range_eq_range']
 generalize List.range' 0 n=is
 induction is generalizing w with
 |nil=>simp[Pj]
 |cons j is ih=>
  simp only[List.forIn_cons,Mf,Pj,E4,hi,Dp]
  generalize (part e xs<|j*c).run P w=r1
  cases r1 with
  |ok a w1=>
   simp only[Dp]
   generalize (Instr.checkKey em d e a).run P w1=r2
   cases r2 with
   |ok b w2=>
    simp only[Dp,Jp];exact ih
   |halt x w2=>simp[Result.andThen]
  |halt x w1=>simp[Result.andThen]
def ab2[DecidableEq α](hl:Bm P T n true=true)(hf:∀x,f x=DG (IT x))(hn:∀x,CH (IT x)=n)
 (hr:Rows P dep fs 0 IT eb)(he:∀x y,eb x y=decide (x=y))
 (h1:∀(d:Nat) (xs ys:B6 AR) (w:AQ),(Op.equalIn (d+1) T (.agg xs)<| .agg ys).run P w=(eqL d xs ys fs).run P w)
 (h2:∀(e:Bool) (d:Nat) (xs:B6 AR) (w:AQ),(Instr.checkKey e (d+1) T<| .agg xs).run P w=(Pj e d xs fs).run P w):JF P T f n true (dep+1) where
 lay:=hl
 sz x:=by rw[hf];exact hn x
 ag x:=by rw[hf];rfl
 eq d H u v x y hu hv w:=by
  rw[hf] at hu hv;obtain⟨cs,rfl,k1⟩:=hu;obtain⟨ds,rfl,k2⟩:=hv;rw[<-Kx,h1,alz hr d H cs ds x y k1 k2 (FM _)<|FM _,he]
 chk d e H u x hu w:=by
  rw[hf] at hu;obtain⟨cs,rfl,k1⟩:=hu;rw[<-Kx,h2,ajr hr d e H cs x k1<|FM _]
 uniq H u v x hu hv:=by
  rw[hf] at hu hv;obtain⟨cs,rfl,k1⟩:=hu;obtain⟨ds,rfl,k2⟩:=hv
  congr 1
  exact Array.ext'<|aiR hr H _ _ x k1 k2
 leaf H u x hu c hc m:=by
  rw[hf] at hu;obtain⟨cs,rfl,k1⟩:=hu;exact aiS hr H _ x k1 c hc m
def nv[DecidableEq α](hl:Bm P T n true=true)(hf:∀x,f x=DG (IT x))(hn:∀x,CH (IT x)=n)
 (hr:Rows P dep fs 0 IT eb)(he:∀x y,eb x y=decide (x=y))
 (ht:P.underlying T=some (.struct<|P.fieldsOf T))(hs:P.stoodInHeld T=false)(hnm:Zr (P.fieldsOf T).toList=true)(Ki:(P.fieldsOf T).toList.map (λf=>(f.type,f.offset))=fs):JF P T f n true (dep+1):=
 ab2 hl hf hn hr he (λd xs ys w=>by rw[run_equalIn_struct w d T xs ys ht hs,wQ d xs ys _ hnm,Ki]) (λe d xs w=>by rw[ahX e d T xs ht hnm,Ki])
def yh{E:Ah}{k c:Nat}{i:TypeInfo}[DecidableEq α](hl:Bm P T n true=true)(hf:∀x,f x=DG (IT x))(hn:∀x,CH (IT x)=n)
 (hr:Rows P dep fs 0 IT eb)(he:∀x y,eb x y=decide (x=y))
 (ht:P.underlying T=some (.array k E))(hi:P.info? E=some i)(hc:P.cellsOf E=c)(Ki:(List.range k).map (λi=>(E,i*c))=fs):JF P T f n true (dep+1):=
 ab2 hl hf hn hr he (λd xs ys w=>by rw[run_equalIn_array w d xs ys ht hi,xe,hc,Ki]) (λe d xs w=>by rw[ajL e d xs ht (c:=c) (λw=>by rw[run_sizeOf w hi,<-hc]),Ki])
def JF.key[DecidableEq α](h:JF P T f n true dep)(hd:dep<=10000)(hk:∃ud,P.underlying T=some ud/\∀u v,Instr.sameNow ud u v=none):S6 P T f where
 eq H u v x y h1 h2 w:=by
  have:=h.eq (10000-dep) H u v x y h1 h2 w;rw[show 10000-dep+dep=10000 from by omega] at this;exact this
 check H u x h1 e w:=by
  have:=h.chk (10000-dep) e H u x h1 w;rw[show 10000-dep+dep=10000 from by omega] at this;exact this
 kind:=hk
 bits H u v x h1 h2:=by
  have:=h.uniq H u v x h1 h2;subst this;have hs:=(f x).shape h1;have ha:=hs.eq;rw[h.ag] at ha;have hl:=h.leaf H u x h1;rw[ha] at hl⊢;show Instr.sameBits (9999+1) (.agg u.cells) (.agg u.cells)=true;simp only[Instr.sameBits,beq_self_eq_true,KL];rw[DZ];intro p hp;have:p.1=p.2/\p.1∈u.cells.toList:=by
   obtain⟨i,hi⟩:=qI.1 hp;rw[qL] at hi;obtain⟨h5,h6⟩:=hi;rw[h5] at h6;exact⟨E5 h6,OV h5⟩
  obtain⟨e1,e2⟩:=this;rw[<-e1];exact hl p.1 e2 _
def JF.eqs[DecidableEq α](h:JF P T f n true dep)(hd:dep<=10000)(hg:P.eqGuardType P.depth T=false):UH P T f where
 run H u v x y h1 h2 w:=by
  have:=h.eq (10000-dep) H u v x y h1 h2 w;rw[show 10000-dep+dep=10000 from by omega] at this;exact this
 guard H u v x y h1 h2 o p q w:=by
  have a1:=((f x).shape h1).eq;have a2:=((f y).shape h2).eq;rw[h.ag] at a1 a2;rw[a1,a2];exact run_eqGuard_agg w o T p q _ _ hg
 agg:=h.ag
end
def aZ:JF prog 35 TS 1 false 1:=aj0 A6 A6
def kt3:JF prog 3 (TI .i64) 1 false 1:=aof A6 A6
def sD:JF prog 34 KJ 3 true 2:=
 yh (k:=3) (E:=3) (c:=1) (fs:=[(3,0),(3,1),(3,2)]) A6 (λ_=>rfl) (λ_=>rfl)
  (Rows.cons (acc:=λx:Int×Int×Int=>x.1) kt3<|Rows.cons (acc:=λx:Int×Int×Int=>x.2.1) kt3<|Rows.cons (acc:=λx:Int×Int×Int=>x.2.2) kt3 Rows.nil)
  (λx y=>by obtain⟨a,b,c⟩:=x;obtain⟨a',b',c'⟩:=y;simp[QO,ZE]) A6 (i:=(prog.info? 3).get A6) A6 A6 rfl
def aqg:JF prog 158 N5 4 true 3:=
 nv (fs:=[(34,0),(35,3)]) A6 (λ_=>rfl) (λ_=>rfl)
  (Rows.cons (acc:=λx:(Int×Int×Int)×AB=>x.1) sD<|Rows.cons (acc:=λx:(Int×Int×Int)×AB=>x.2) (aZ.qz A4) Rows.nil)
  (λx y=>by obtain⟨a,b⟩:=x;obtain⟨a',b'⟩:=y;simp[QO,ZE]) A6 A6 A6 A6
def acD:JF prog 60 BP 3 true 2:=
 yh (k:=3) (E:=35) (c:=1) (fs:=[(35,0),(35,1),(35,2)]) A6 (λ_=>rfl) (λ_=>rfl)
  (Rows.cons (acc:=λx:AB×AB×AB=>x.1) aZ<|Rows.cons (acc:=λx:AB×AB×AB=>x.2.1) aZ<|Rows.cons (acc:=λx:AB×AB×AB=>x.2.2) aZ Rows.nil)
  (λx y=>by obtain⟨a,b,c⟩:=x;obtain⟨a',b',c'⟩:=y;simp[QO,ZE]) A6 (i:=(prog.info? 35).get A6) A6 A6 rfl
def acF:JF prog 37 Ao 4 true 3:=
 nv (fs:=[(34,0),(35,3)]) A6 (λ_=>rfl) (λ_=>rfl)
  (Rows.cons (acc:=λx:(Int×Int×Int)×AB=>x.1) sD<|Rows.cons (acc:=λx:(Int×Int×Int)×AB=>x.2) (aZ.qz A4) Rows.nil)
  (λx y=>by obtain⟨a,b⟩:=x;obtain⟨a',b'⟩:=y;simp[QO,ZE]) A6 A6 A6 A6
def asE:JF prog 85 Kn 7 true 4:=
 nv (fs:=[(37,0),(60,4)]) A6 (λ_=>rfl) (λ_=>rfl)
  (Rows.cons (acc:=λx:HfZ×BU=>x.1) acF<|Rows.cons (acc:=λx:HfZ×BU=>x.2) (acD.qz A4) Rows.nil)
  (λx y=>by obtain⟨a,b⟩:=x;obtain⟨a',b'⟩:=y;simp[QO,ZE]) A6 A6 A6 A6
def aba:S6 prog 158 N5:=aqg.key A4 ⟨.struct<|prog.fieldsOf 158,A6,λ_ _=>rfl⟩
def rU:UH prog 34 KJ:=sD.eqs A4 A6
def Wt:UH prog 60 BP:=acD.eqs A4 A6
def arQ:UH prog 37 Ao:=acF.eqs A4 A6
def arP:UH prog 85 Kn:=asE.eqs A4 A6
def Acc{Y:Type}(b:Nat)(B:A3 Y->A9 (A3 Y)):Prop:=
 ∀s r,B s=some r->∃ys,r=s++ys/\((s.length*b<=140737488355328->r.length*b<=140737488355328))/\∀s',(s'.length+ys.length)*b<=140737488355328->B s'=some (s'++ys)
section
variable{Y:Type}{b:Nat}
variable{X:Type}{B:X->A3 Y->A9 (A3 Y)}
def Acc.some:Acc (Y:=Y) b λs=>Option.some s:=λs r h=>by
 cases h;exact⟨[],AS,id,λs' _=>by simp⟩
def Acc.none:Acc (Y:=Y) b λ_=>Option.none:=λs r h=>by cases h
def Acc.bdc{e:A9 X}{K:X->A3 Y->A9 (A3 Y)}(h:∀x,Acc b<|K x):Acc b λs=>bd e λx=>K x s:=λs r hr=>by
 obtain⟨x,he,hr⟩:=NW hr;obtain⟨ys,h1,h2,h3⟩:=h x s r hr;exact⟨ys,h1,h2,λs' hs=>by rw[he];exact h3 s' hs⟩
def Acc.gc{c:Bool}{K:A3 Y->A9 (A3 Y)}(h:Acc b K):Acc b λs=>gC c (K s):=λs r hr=>by
 cases c with
 |false=>cases hr
 |true=>exact h s r hr
theorem Acc.cond{c:Bool}{A B:A3 Y->A9 (A3 Y)}(h:Acc b A)(k:Acc b B):Acc b λs=>cond c (A s) (B s):=by cases c<;>simp_all [Acc]
def Acc.arT{c:A3 Y->Bool}{A B:A3 Y->A9 (A3 Y)}(hc:∀s,c s=c [])(h:Acc b A)(k:Acc b B):Acc b λs=>_root_.cond (c s) (A s) (B s):=by
 have e:(λs=>_root_.cond (c s) (A s)<|B s)=λs=>_root_.cond (c []) (A s) (B s):=by
  funext s;rw[hc s]
 rw[e];exact Acc.cond h k
def Acc.app{e:Y}{K:A3 Y->A9 (A3 Y)}(hb:Nat.ble 1 b=true)(h:Acc b K):Acc b λs=>bd (BH b s [e]) λx=>K x:=λs r hr=>by
 have hb:=F1 hb;obtain⟨x,hx,hr⟩:=NW hr;have acU:∀s:A3 Y,(s.length+1)*b<=140737488355328->BH b s [e]=Option.some (s++[e]):=λs hs=>by
  unfold BH;have h1:s.length+1<=9223372036854775807:=by
   have:=Nat.le_mul_of_pos_right (s.length+1) (show 0<b by omega);omega
  simp[hs,h1]
 have hxs:x=s++[e]/\(s.length+1)*b<=140737488355328:=by
  by_cases hc:(s.length+1)*b<=140737488355328
  ·rw[acU s hc] at hx;exact⟨(E5 hx).symm,hc⟩
  ·unfold BH at hx;simp[hc] at hx
 obtain⟨rfl,SN⟩:=hxs;obtain⟨ys,h1,h2,h3⟩:=h _ r hr;refine⟨e::ys,by rw[h1];simp,λ_=>h2 (by simpa using SN),λs' hs=>?_⟩;have Co:(s'.length+1+ys.length)*b<=140737488355328:=by
  have:s'.length+(e::ys).length=s'.length+1+ys.length:=by simp;omega
  rwa [this] at hs
 show bd (BH b s' [e]) (λx=>K x)=_;rw[acU s'<|Ca (J9 b A4) Co];show K (s'++[e])=_;rw[h3 (s'++[e]) (by simpa using Co)];simp
def Acc.lp{I:Type}{Body:((A3 Y×I)->A9 (A3 Y))->A3 Y×I->A9 (A3 Y)}(h:∀k:(A3 Y×I)->A9 (A3 Y),(∀i,Acc b λs=>k (s,i))->∀i,Acc b λs=>Body k (s,i)):∀n i,Acc b λs=>lp n Body (s,i)
 |0,i=>Acc.none
 |n+1,i=>h _ (Acc.lp h n) i
def zC{X:Type}{B:X->A3 Y->A9 (A3 Y)}(hB:∀x,Acc b<|B x):∀{l:A3 X} {s r:A3 Y},Pd B l s=Option.some r->s.length*b<=140737488355328->∃Ys:A3 (A3 Y),Ys.length=l.length/\r=s++Ys.flatten/\r.length*b<=140737488355328/\
  ∀p∈l.zip Ys,∀s',(s'.length+p.2.length)*b<=140737488355328->B p.1 s'=Option.some (s'++p.2)
 |[],s,r,h,hs=>by cases h;exact⟨[],rfl,AS,hs,AS⟩
 |x::l,s,r,h,hs=>by
  obtain⟨s1,hx,h⟩:=NW h;obtain⟨ys,h1,h2,h3⟩:=hB x s s1 hx;obtain⟨Ys,k1,k2,k3,k4⟩:=zC hB h<|h2 hs
  refine⟨ys::Ys,by simp[k1],by rw[k2,h1];simp,k3,?_⟩;intro p hp;rw[List.zip_cons_cons,Ai] at hp;rcases hp with rfl|hp
  ·exact h3
  ·exact k4 p hp
def ym{X:Type}{B:X->A3 Y->A9 (A3 Y)}:∀{q:A3 (X×A3 Y)} {s:A3 Y},(∀p∈q,∀s',(s'.length+p.2.length)*b<=140737488355328->B p.1 s'=Option.some (s'++p.2))->(s++(q.map (·.2)).flatten).length*b<=140737488355328->Pd B (q.map (·.1)) s=Option.some (s++(q.map (·.2)).flatten)
 |[],s,_,_=>by simp[Pd]
 |p::q,s,h,hl=>by
  have hl':(s.length+p.2.length+((q.map (·.2)).flatten).length)*b<=140737488355328:=by
   simpa[Kx] using hl
  show bd (B p.1 s) _=_;rw[h p AS s<|Ca (J9 b A4) hl'];show Pd B (q.map (·.1)) (s++p.2)=_;rw[ym (λp' hp'=>h p' (by simp[hp'])) (by simpa[Kx] using hl')];simp
def ak2{Z:Type}:∀{l π:A3 X} {Zs:A3 Z},π.Perm l->Zs.length=l.length->∃q:A3 (X×Z),q.Perm (l.zip Zs)/\q.map (·.1)=π:=by
 intro l π Zs hp
 induction hp generalizing Zs with
 |nil=>intro h;exact⟨[],AS,rfl⟩
 |cons x hp ih=>
  intro h;cases Zs with
  |nil=>simp at h
  |cons z Zs=>
   obtain⟨q,h1,h2⟩:=ih (by simpa using h);exact⟨(x,z)::q,by simpa using h1,by simp[h2]⟩
 |swap x y l=>
  intro h
  match Zs,h with
  |z1::z2::Zs,h=>
   refine⟨(y,z2)::(x,z1)::l.zip Zs,by simpa using List.Perm.swap _ _ _,?_⟩;have:Zs.length=l.length:=by simpa using h
   simp[List.map_fst_zip,this]
 |trans h1 h2 ih1 ih2=>
  intro h;obtain⟨q2,a1,a2⟩:=ih2 h;obtain⟨q1,b1,b2⟩:=ih1 (Zs:=q2.map (·.2)) (by rw[Bp,<-a2,Bp]);refine⟨q1,b1.trans ?_,b2⟩;have:(List.zip (q2.map (·.1))<|q2.map (·.2))=q2:=by
   rw[List.zip_map'];simp
  rw[<-a2,this];exact a1
def alW(hB:∀x,Acc b<|B x){l π:A3 X}{r:A3 Y}(h:Pd B l []=Option.some r)(hp:π.Perm l):∃r',Pd B π []=Option.some r'/\r'.Perm r:=by
 obtain⟨Ys,h1,h2,h3,h4⟩:=zC hB h AS;obtain⟨q,q1,q2⟩:=ak2 hp h1;have hq:((q.map (·.2)).flatten).Perm r:=by
  rw[h2,Ii];refine List.Perm.flatten ?_;have:=q1.map (·.2);rwa [List.map_snd_zip A4] at this
 refine⟨_,by rw[<-q2];exact ym (b:=b) (λp hp s' hs=>h4 p (q1.mem_iff.1 hp) s' hs) (by rw[Ii,hq.length_eq];exact h3),?_⟩;simpa using hq
end
section
variable{α:Type}[DecidableEq α]{c:α×α->Option Int}
def wO{rk:α->Nat}:∀{s:A3 α} {x:α},(∀y∈s,∃v,c (x,y)=some v/\(v<0↔rk x<rk y))->s.Pairwise (λa b=>rk b<=rk a)->∃s',Nq (λa b=>c (a,b)) x s=some s'/\s'.Pairwise λa b=>rk b<=rk a
 |[],x,_,_=>⟨[x],rfl,AS⟩
 |y::s,x,h,hs=>by
  obtain⟨v,hv,hr⟩:=h y AS;obtain⟨hy,Co⟩:=HE.1 hs;cases hd:decide (v<0) with
  |true=>
   obtain⟨s',h1,h2⟩:=wO (λz hz=>h z<|Bq _ hz) Co;refine⟨y::s',?_,HE.2 ⟨λz hz=>?_,h2⟩⟩
   ·show bd (c (x,y)) _=_;rw[hv];show cond (decide<|v<0) _ _=_;rw[hd];show bd (Nq (λa b=>c (a,b)) x s) _=_;rw[h1];rfl
   ·rcases Ai.1 ((fB h1).mem_iff.1 hz) with e|hz
    ·subst e;have:=hr.1<|An hd
     omega
    ·exact hy z hz
  |false=>
   refine⟨x::y::s,?_,HE.2 ⟨λz hz=>?_,hs⟩⟩
   ·show bd (c (x,y)) _=_;rw[hv];show cond (decide<|v<0) _ _=_;rw[hd];rfl
   ·have hn: ¬rk x<rk y:=λh=>by have:=hr.2 h;simp[this] at hd
    rcases Ai.1 hz with e|hz
    ·subst e;omega
    ·have:=hy z hz;omega
def vE{rk:α->Nat}:∀{l s:A3 α},(∀x∈s++l,∀y∈s++l,∃v,c (x,y)=some v/\(v<0↔rk x<rk y))->s.Pairwise (λa b=>rk b<=rk a)->
  ∃s',IW l (λnext x s=>bd (Nq (λa b=>c (a,b)) x s) next) s (λs=>some s.reverse)=some s'/\s'.Pairwise (λa b=>rk a<=rk b)
 |[],s,_,hs=>⟨s.reverse,rfl,List.pairwise_reverse.2 hs⟩
 |x::l,s,h,hs=>by
  obtain⟨s1,h1,h2⟩:=wO (c:=c) (rk:=rk) (s:=s) (x:=x) (λy hy=>h x AS y (by simp[hy])) hs;have hp:=fB h1;obtain⟨s',h3,h4⟩:=vE (l:=l) (s:=s1) (λa ha b hb=>by
   have mem:∀z,z∈s1++l->z∈s++x::l:=λz hz=>by
    rcases Cp.1 hz with hz|hz
    ·rcases Ai.1 (hp.mem_iff.1 hz) with e|hz
     ·simp[e]
     ·simp[hz]
    ·simp[hz]
   exact h a (mem a ha) b<|mem b hb) h2
  refine⟨s',?_,h4⟩;show bd (Nq (λa b=>c (a,b)) x s) _=_;rw[h1];exact h3
def agF{l l' r:A3 α}(h:Hn l c=some r)(hp:l'.Perm l):Hn l' c=some r:=by
 obtain⟨h1,h2,h3,h4⟩:=YG h;have mem:∀x∈l',x∈r:=λx hx=>h1.mem_iff.2<|hp.mem_iff.1 hx
 have key:∀x∈l',∀y∈l',∃v,c (x,y)=some v/\(v<0↔r.idxOf x<r.idxOf y):=λx hx y hy=>by
  obtain⟨v,hv⟩:=h3 x (hp.mem_iff.1 hx) y<|hp.mem_iff.1 hy
  exact⟨v,hv,fL h2 (mem x hx) (mem y hy) hv⟩
 obtain⟨s',k1,k2⟩:=vE (c:=c) (rk:=λx=>r.idxOf x) (l:=l') (s:=[]) (by simpa using key) List.Pairwise.nil;have k1:iY (λa b=>c (a,b)) l'=some s':=k1;have e:s'=r:=xE h2 ((vj k1).trans<|hp.trans h1.symm) k2;subst e;unfold Hn;rw[k1];show EV _ s'=_;have g1:Nat.blt l'.length 4611686018427387904=true:=by rw[hp.length_eq];exact IE h4
 have g2:totB c l'=true:=DZ.2 λx hx=>DZ.2 λy hy=>by
  obtain⟨v,hv,_⟩:=key x hx y hy;rw[hv];rfl
 rw[g1,g2,h2];rfl
end
def ad4{x4:_}{r:_}(hm:Se (λ(x7:HfZ×V3) (s6:(A3<|HfZ×BU))=>
   bd (XY x7.2) λx9=>
   cond (x9) (
    some s6
   ) (
    bd (VC x7.2) λBI=>
    cond (!decide (BI.2=(0:Int))) (
     none
    ) (
     bd (BH 88 s6 ([((x7.1.1,x7.1.2),BI.1)]:A3 (HfZ×BU))) λBe=>
     some Be
    )
   )
  ) x4 [] (λ(s6:(A3<|HfZ×BU))=>
   bd (Hn s6<|λx=>bQ x.1 x.2) λBY=>
   some (BY,(0:Int)))=some r):∀π,π.Perm x4->Se (λ(x7:HfZ×V3) (s6:(A3<|HfZ×BU))=>
   bd (XY x7.2) λx9=>
   cond (x9) (
    some s6
   ) (
    bd (VC x7.2) λBI=>
    cond (!decide (BI.2=(0:Int))) (
     none
    ) (
     bd (BH 88 s6 ([((x7.1.1,x7.1.2),BI.1)]:A3 (HfZ×BU))) λBe=>
     some Be
    )
   )
  ) π [] (λ(s6:(A3<|HfZ×BU))=>
   bd (Hn s6<|λx=>bQ x.1 x.2) λBY=>
   some (BY,(0:Int)))=some r:=by
 intro π hπ;obtain⟨s,hs,hr⟩:=NW hm;obtain⟨s',Co,hp⟩:=alW (b:=88) (by
  intro x
  repeat' (first|exact Acc.some|exact Acc.none|refine Acc.app rfl ?_|refine Acc.arT (λ_=>rfl) ?_ ?_|(refine Acc.bdc<|λx=>?_)|fail)) hs hπ
 unfold Se;rw[Co];obtain⟨y,hy,hr⟩:=NW hr;show bd (Hn s' _) _=_;rw[agF hy hp];exact hr
end Trn
namespace Ol
section
open Go.Shelf Go.Lib
def aeb(m n:Nat)(h:n<=m):(⟨(List.replicate m (48:UInt8)).toArray⟩:ByteArray).extract 0 n=⟨(List.replicate n 48).toArray⟩:=by
 apply ByteArray.ext;rw[ByteArray.data_extract];apply Array.ext';simp[List.take_replicate,Nat.min_eq_left h]
set_option maxHeartbeats 4000000 in
set_option maxRecDepth 1000000 in
def arv(n:Nat)(h2:2<=n)(h:n<=64)(w:World):
  Calls prog 295 #[.string ⟨#[48]⟩,.int .i64 n] w λe w'=>e= .returned (.string ⟨(List.replicate n 48).toArray⟩)/\∃k,w'=w.drewN k:=by
 have e317:∀args w,(callFunc 333 args).run prog w= .ok (.enter 333 args) w:=enters_of func333 Trn.A6 rfl;have e232:∀args w,(callFunc 246 args).run prog w= .ok (.enter 246 args) w:=enters_of func246 Trn.A6 rfl;have hmul:=λw=>bits_Mul 1 n Trn.A4 Trn.A4 w
 have hp:=λs w=>strings_HasPrefix s ⟨#[48]⟩ w
 go_enter func295,ntmps295
 go_wp2_with (first|(go_at_fn (333);refine(hmul _).mono ?_;rintro e w' ⟨rfl,rfl⟩)|(go_at_fn (246);refine(hp _ _).mono ?_;rintro e w' ⟨rfl,rfl⟩))
 go_ret
 refine⟨?_,0,by simp[World.drewN_zero]⟩;have hm:n%18446744073709551616=n:=Nat.mod_eq_of_lt Trn.A4;show Ending.returned (Value.string<|ByteArray.extract _ 0<|n%18446744073709551616)=_;rw[hm]
 congr 2
 exact aeb 64 n h
end
end Ol
namespace Trn
section
open Go.Shelf
variable[D:DR]
variable{cur:B6 AR}
theorem ahI{k n:Nat}{ps qs xs:A3 AR}{w:AQ}{blk:Nat}{E:Ah}[Inhabited<|Fin n](hl:xs.length=n*k)(hb:w.heap[blk]? =some (.cells cur E (0,0)))(ht:cur.toList=ps++(xs++qs)):
  Go.Sort.HoldsK (λi:Fin n=>chunk k xs i) k w blk ps.length (Array.ofFn λi:Fin n=>i):=by
 unfold Go.Sort.HoldsK Go.Sort.Holds;intro j hj;rw[Go.Sort.size_flatK,W0] at hj;have Lm:cur[ps.length+j]? =xs[j]? :=by
  rw[<-PX,ht,NU A4,Nat.add_sub_cancel_left,MG A4]
 have hk:0<k:=(L2 k).elim (λe=>by subst e;simp at hj) id;have hi:j/k<n:=Nat.div_lt_of_lt_mul (by rw[Kt];exact hj);refine⟨?_,by simp[World.frozen?,hb]⟩;rw[Go.Sort.get_flatK _ _ _ _ (by simpa using hj)];rw[ZI hb,Lm];have e1:(Array.ofFn λi:Fin n=>i)[j/k]! =⟨j/k,hi⟩:=by rw[Jo (Array.ofFn λi:Fin n=>i) (j/k) (by simpa using hi)];simp
 rw[e1];have hg:=xm hl hj;have hlt:j%k<(chunk k xs<|j/k).length:=by rw[TM hl hi];exact OH _ hk
 show xs[j]? =some (id (chunk k xs<|j/k)[j%k]!);rw[<-hg,Jo (chunk k xs<|j/k) (j%k) hlt,Gy hlt];rfl
theorem adA{α:Type}[Inhabited α]{enc:α->A3 AR}{k:Nat}{w:AQ}{blk off m:Nat}{dk:B6 α}{os:B6 Obj}{E:Ah}{fr:Nat×Nat}(hb:w.heap[blk]? =some (.cells cur E fr)):
  (sortWorldK enc k w blk off m dk os).heap[blk]? =some (.cells (Go.Sort.putCells id off (Go.Sort.flatK enc k dk) cur) E fr):=by
 unfold sortWorldK Go.Sort.grow Go.Sort.putRowK Go.Sort.putRow Go.Sort.mapBlock Go.Sort.ahead;simp only[gy,Array.size_modify,lt_of_heap hb,if_pos,Tz,hb,Rx]
 rfl
theorem afM{ps xs qs:A3 AR}{d:B6 AR}(h:cur.toList=ps++(xs++qs))(hd:d.size=xs.length):(Go.Sort.putCells id ps.length d cur).toList=ps++(d.toList++qs):=by
 have hs:cur.size=ps.length+(xs.length+qs.length):=by rw[<-Ex,h];simp
 apply WA;intro i;rw[PX];unfold Go.Sort.putCells;rw[Array.getElem?_mapIdx,<-PX,h];rcases Hp i ps.length with h1|h1
 ·rw[MG h1,MG h1];cases ps[i]? with
  |none=>rfl
  |some v=>simp;omega
 ·rw[NU h1,NU h1];rcases Hp (i-ps.length) xs.length with h2|h2
  ·rw[MG h2,MG (by simpa[hd] using h2),Gy h2,Rx,if_pos ⟨h1,A4⟩,PX,iB A4,Jo d _ A4];rfl
  ·have e3:d.toList.length=xs.length:=by rw[<-hd];exact Ex
   rw[NU h2,NU (by rw[e3];exact h2),e3];cases qs[i-ps.length-xs.length]? with
   |none=>rfl
   |some v=>simp;omega
end
section
open Go.Shelf
variable[D:DR]
variable{P:Program}{ρ:Ren}{A:Type}[DecidableEq A]{τ:A->Ty}{k:Nat}{c:A×A->Option Int}
set_option maxHeartbeats 1000000 in
theorem agu(L:SlLaysF0.n6 P ρ)(aE:∀w,(isAgg<|ρ.t 24).run P w= .ok true w)(zE:∀w,(Go.sizeOf<|ρ.t 24).run P w= .ok k w)(hc:GL P (ρ.f 6)=true)
  (hn:∀a,(τ a).n=k)(ha:∀a,(τ a).agg=true)(none:∀(p:A9 Addr) (cap:Nat) (fv:AR) (w:AQ),Calls P (ρ.f 6) #[.slice p 0 cap,fv] w λe w'=>e= .returned (.tuple #[])/\w'=w)
  {l r:A3 A}(hm:Hn l c=some r){ps qs:A3 AR}:
  I9 P (ρ.f 6) [] (.F3 (ρ.t 24) ps qs<|lT τ l) (.F3 (ρ.t 24) ps qs<|lT τ r) [JL P (λx:A×A=>[τ x.1,τ x.2]) (λx:Int=>[(TI .i64) x]) c] []:=by
 obtain⟨h1,h2,h3,h4⟩:=YG hm;have hrl:r.length=l.length:=h1.length_eq;refine⟨hc,λw H v pv qv sub gl hp hq hs=>?_⟩;have hp:=Z1 hp;subst hp;obtain⟨fv,rfl,hfv⟩:=PD hq;obtain⟨g,cap,FA,rfl,Ql,hf⟩:=hfv;obtain⟨blk,Eo,cur,xs,rfl,hblk,Lm,As,hB,jD⟩:=hs;have hlen:(lT τ l).length=l.length:=Bp ..;have UO:(lT τ r).length=l.length:=by rw[Bp,hrl]
 rw[hlen];have LA:∀b,Value.ownBlock (.slice (some ⟨blk,ps.length,.none⟩) l.length Eo)=some b->H b= .none:=λb hb=>by cases hb;exact hB
 by_cases hl0:l=[]
 ·subst hl0;have hr:r=[]:=List.Perm.eq_nil h1;subst hr;refine(none _ Eo _ w).mono ?_;rintro e w' ⟨rfl,rfl⟩;exact⟨_,rfl,H,(Tr.refl _ _).LA sub LA,⟨blk,Eo,cur,xs,rfl,hblk,Lm,As,hB,jD⟩,λb hb=> .inl hb,#[],rfl,rfl⟩
 ·have hpos:0<l.length:=WD.2 hl0
  haveI:Inhabited (Fin l.length):=⟨⟨0,hpos⟩⟩
  obtain⟨GR,KD⟩:=TH hn ha As
  let cf:Fin l.length->Fin l.length->Int:=λi j=>(c (l[i],l[j])).getD 0
  have tot:∀i j:Fin l.length,c (l[i],l[j])=some (cf i j):=λi j=>by
   obtain⟨v,hv⟩:=h3 _ (L0 i.2) _<|L0 j.2
   have hv:c (l[i],l[j])=some v:=hv;show c (l[i],l[j])=some ((c (l[i],l[j])).getD 0);rw[hv];rfl
  have UZ:=E0.can (D:=DR.strict)<|hf _ _<|tot ⟨0,hpos⟩ ⟨0,hpos⟩
  have hcmp:=wX (P:=P) (off:=ps.length) hn ha As sub gl hB Ql hf cf tot;have hd:(Array.ofFn λi:Fin l.length=>i).size=l.length:=W0;have main:=AnyQ.slices_SortFunc L k aE zE (λi:Fin l.length=>chunk k xs i) (λi=>TM GR i.2)
   (λi u hu=>Rg As u<|Tx<|QP hu) cf (yA hm tot) g cap blk ps.length Eo (Array.ofFn λi:Fin l.length=>i) w
   (λargs w=>Ow UZ args w) (by rw[hd];exact hcmp) (ahI GR hblk Lm) (lt_of_heap hblk) (by rw[hd];exact h4)
  rw[hd] at main;refine main.mono ?_;rintro e w' ⟨rfl,d',m,os,Wq,rL,rfl⟩;obtain⟨hdz,hdr⟩:=xF hm tot Wq rL;have Ki:(Go.Sort.flatK (λi:Fin l.length=>chunk k xs i) k d').size=l.length*k:=by rw[Go.Sort.size_flatK,hdz]
  refine⟨_,rfl,H,Tr.LA (M:=λb=>Value.ownBlock (.slice (some ⟨blk,ps.length,.none⟩) l.length Eo)=some b) ⟨kX,rfl,rfl,rfl,?_,λi hi hne=>Xj hi (λe=>hne (by rw[e];rfl))⟩ sub LA,
   ⟨blk,Eo,_,(Go.Sort.flatK (λi:Fin l.length=>chunk k xs i) k d').toList,by rw[UO],adA hblk,afM Lm (by rw[Ki,GR]),?_,hB,jD⟩,λb hb=> .inl hb,#[],rfl,rfl⟩
  ·refine Gu.of ?_;show w.drawn<=(sortWorldK _ k w blk _ m d' os).drawn;unfold sortWorldK Go.Sort.grow Go.Sort.putRowK Go.Sort.putRow Go.Sort.mapBlock Go.Sort.ahead;exact Tq _ _
  ·refine dF (by rw[Ex,Ki,hrl]) λi hi=>?_
   have hi2:i<d'.size:=A4;rw[nG (λi=>TM GR i.2) hi2];rw[Jo d' i hi2];have e:r[i]=l[d'[i]]:=by
    have:r[i]? =(d'.toList.map λi=>l[i])[i]? :=by rw[hdr]
    rw[Gy hi,Gg,PX,iB hi2] at this;simpa using this
   rw[e];exact KD _ d'[i].2
end
section
variable[D:DR]
variable{l r:A3 V3}
theorem ajp{l r:A3 (HfZ×BU)}{c:(HfZ×BU)×(HfZ×BU)->A9 Int}(hm:Hn l c=some r):I9 prog 98 [] (.buf 85 7<|lT Kn l) (.buf 85 7<|lT Kn r) [(JL prog (λ(x:(HfZ×BU)×(HfZ×BU))=>[Kn x.1,Kn x.2])<|λ(x:Int)=>[(TI .i64) x]) c] []:=
 eP (ρ:=w9) aaY (k:=7) isAgg85 sizeOf85 A6 (λ_=>rfl) (λ_=>rfl) (AnyF.slices_SortFunc_none aaY) hm
theorem aiO{c:V3×V3->A9 Int}(hm:Hn l c=some r):I9 prog 152 [] (.buf 114 12<|lT Av l) (.buf 114 12<|lT Av r) [(JL prog (λ(x:V3×V3)=>[Av x.1,Av x.2])<|λ(x:Int)=>[(TI .i64) x]) c] []:=
 eP (ρ:=mG) fX (k:=12) isAgg114 sizeOf114 A6 (λ_=>rfl) (λ_=>rfl) (AnyF.slices_SortFunc_none fX) hm
theorem agz{c:V3×V3->A9 Int}(hm:Hn l c=some r){ps qs:A3 AR}:I9 prog 152 [] (.F3 114 ps qs<|lT Av l) (.F3 114 ps qs<|lT Av r) [(JL prog (λ(x:V3×V3)=>[Av x.1,Av x.2])<|λ(x:Int)=>[(TI .i64) x]) c] []:=
 agu (ρ:=mG) fX (k:=12) isAgg114 sizeOf114 A6 (λ_=>rfl) (λ_=>rfl) (AnyF.slices_SortFunc_none fX) hm
theorem af3{c:V3×V3->A9 Bool}(hm:Yb l c=some r):WS prog 207 114 12 (lT Av l) [(JL prog (λ(x:V3×V3)=>[Av x.1,Av x.2])<|λ(x:Bool)=>[Ay x]) c] (lT Av r):=
 afz (k:=12) A6 (λ_=>rfl) (λ_=>rfl) Ol.ahT
  (Ol.ahS func207 mixed rfl underlying3 isAgg3 sizeOf3 zeroValue3 underlying4 isAgg4 sizeOf4 underlying125 isAgg125 sizeOf125 isAgg114 sizeOf114 _ zeroValue114 (by rfl) dcZ) hm
theorem aiN{l r:A3 (PlZ×(A3<|Rat×Rat×Rat))}{c:(PlZ×(A3<|Rat×Rat×Rat))×(PlZ×(A3<|Rat×Rat×Rat))->A9 Int}(hm:Hn l c=some r):I9 prog 208 [] (.buf 129 17<|lT BV l) (.buf 129 17<|lT BV r) [(JL prog (λ(x:(PlZ×(A3<|Rat×Rat×Rat))×(PlZ×(A3<|Rat×Rat×Rat)))=>[BV x.1,BV x.2])<|λ(x:Int)=>[(TI .i64) x]) c] []:=
 eP (ρ:=vS) zO (k:=17) isAgg129 sizeOf129 A6 (λ_=>rfl) (λ_=>rfl) (AnyF.slices_SortFunc_none zO) hm
theorem aiL{l r:BdZ}{c:HfZ×HfZ->A9 Int}(hm:Hn l c=some r):I9 prog 265 [] (.buf 37 4<|lT Ao l) (.buf 37 4<|lT Ao r) [(JL prog (λ(x:HfZ×HfZ)=>[Ao x.1,Ao x.2])<|λ(x:Int)=>[(TI .i64) x]) c] []:=
 eP (ρ:=vR) zN (k:=4) isAgg37 sizeOf37 A6 (λ_=>rfl) (λ_=>rfl) (AnyF.slices_SortFunc_none zN) hm
theorem ao7{x r:A3 (A3<|PlZ×A3 V3)}{n:Int}(hm:qp x n=some r):E0 prog 124 [(TN<|TL BV) x,(TI .i64) n] (.fr 94 1<|lT (TL BV) r):=
 aj9 (ρ:=vk) anD (i0:=(prog.info? 94).get A6) (z:= .slice none 0 0) (sz:=1) A6 A6 A6 dcZ rfl (F1 A6) A6 hm
def abM{w:AQ}{H:HV}(sub:∀r o,H r=some o->w.heap[r]? =some o)(gl:KP prog H):Lib.TabIs prog w "internal/strconv.uint64pow10" .u64 Lib.pow10Tab:=by
 obtain⟨g,hg,T,hT,e,hu⟩:∃g,prog.globalNamed "internal/strconv.uint64pow10" =some g/\∃T,(prog.globals[g]?).map (·.type)=some T/\∃e,prog.underlying T=some (.array 20 e):=by
  refine⟨((prog.globalNamed "internal/strconv.uint64pow10").getD 0),A6,((prog.globals[((prog.globalNamed "internal/strconv.uint64pow10").getD 0)]?).map (·.type)).getD 0,A6,293,A6⟩
 have:=gl g T hT;unfold SE at this;rw[hu] at this;obtain⟨E,fr,e'⟩:=this;unfold Lib.TabIs World.var?;rw[hg];show(match w.heap[g]? with|some (.cells cs _ _)=>some cs|_=>none)=_;rw[sub _ _ e'];show some dz=_
 congr 1
def ao6{x:Int}{r:AB}(hm:Zt x=some r):AP 293 [TI .i64 x] [TS r]:=by
 unfold Zt at hm;cases hb:Hd x
 ·rw[hb] at hm;cases hm
 ·rw[hb] at hm;have hm:some (Bo x)=some r:=hm;cases hm;unfold Hd at hb;obtain⟨h1,h2⟩:=EH hb;have h1:=An h1;have h2:=An h2;refine RY A6 λw H vs sub gl ha=>?_
  obtain⟨u,rfl,hu⟩:=PD ha;have hu:u= .int .i64 x:=hu;subst hu;refine(strconv_Itoa x h1 h2 w<|abM sub gl).mono ?_;rintro e w' ⟨rfl,k,os,rfl⟩;refine⟨_,rfl,⟨Ol.wj,Gu.of<|Tq _ _⟩,?_⟩;show Value.string _=Value.string _
  congr 3
  unfold Bo Lib.itoa;by_cases h:x<0
  ·rw[if_pos h,B0 h,WQ];rfl
  ·rw[if_neg h,Bl h,WQ,show x.natAbs=x.toNat from by omega];rfl
def ao8{x y:Int}{r:AB}(hm:iV x y=some r):AP 294 [TI .u64 x,TI .i64 y] [TS r]:=by
 obtain⟨hb,rfl⟩:=HC hm;obtain⟨hb,h3⟩:=EH hb;obtain⟨h1,h2⟩:=EH hb;have h1:=An h1;have h2:=An h2;have h3:=An h3;subst h3;obtain⟨n,rfl⟩:=F8 h1;refine RY A6 λw H vs sub gl ha=>?_
 obtain⟨u,v,rfl,hu,hv⟩:=Tc ha;have hu:u= .int .u64 n:=hu;have hv:v= .int .i64 10:=hv;subst hu;subst hv;refine(Ol.afY n A4 w<|abM sub gl).mono ?_;rintro e w' ⟨rfl,k,os,rfl⟩;refine⟨_,rfl,⟨Ol.wj,Gu.of<|Tq _ _⟩,?_⟩;show Value.string _=Value.string _;rw[Ch,WQ]
def ao5{x:AB}{y:Int}{r:AB}(hm:iU x y=some r):AP 295 [TS x,TI .i64 y] [TS r]:=by
 obtain⟨hb,rfl⟩:=HC hm;obtain⟨hb,h3⟩:=EH hb;obtain⟨h1,h2⟩:=EH hb;have h1:=An h1;have h2:=An h2;have h3:=An h3;subst h3;obtain⟨n,rfl⟩:=F8 h1;refine RY A6 λw H vs sub gl ha=>?_
 obtain⟨u,v,rfl,hu,hv⟩:=Tc ha;have hu:u= .string ⟨#[48]⟩:=hu;have hv:v= .int .i64 n:=hv;subst hu;subst hv;rw[Ch];rcases(show n=0\/n=1\/2<=n by omega) with h|h|h
 ·subst h;refine(strings_Repeat_zero ⟨#[48]⟩ w).mono ?_;rintro e w' ⟨rfl,rfl⟩;exact⟨_,rfl,FL.refl _ _,rfl⟩
 ·subst h;refine(strings_Repeat_one ⟨#[48]⟩ w).mono ?_;rintro e w' ⟨rfl,rfl⟩;exact⟨_,rfl,FL.refl _ _,rfl⟩
 ·refine(Ol.arv n h A4 w).mono ?_;rintro e w' ⟨rfl,k,rfl⟩;refine⟨_,rfl,⟨⟨rfl,rfl,rfl,BM _,λ_ _=>rfl⟩,Gu.of<|Tq _ _⟩,?_⟩;show Value.string _=Value.string _;rw[zR]
end
end Trn
