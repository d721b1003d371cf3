/-
  Part of the proof of DrawMoves.
-/
import Derived.Test.YtokjddaclakenaaGreatDoorHb
set_option maxRecDepth 100000
set_option maxHeartbeats 20000000
set_option linter.all false
open Go Go.RowKit Go.Proofs Go.Proofs.Tryz
namespace Trn
section
variable{P:Program}
variable{n:Nat}{T:asr}{α:Type}{f:α->Ty}{dep:Nat}{J2:α->asv Ty}{eb:α->α->Bool}{fs:asv (asr×Nat)}
def aa3(em:Bool)(d:Nat){t e:asr}{c:Nat}(xs:auA aq6){w:aq5}(hu:P.underlying t=some (.array n e))(hi:∀w,(Go.sizeOf e).run P w= .ok c w):
  (Instr.checkKey em (d+1) t<| .agg xs).run P w=(Qt em d xs<|(List.range n).map fun i=>(e,i*c)).run P w:=by
 simp only[Instr.checkKey,fh,qc hu,eQ];simp only[Std.Legacy.Range.forIn_eq_forIn_range',Std.Legacy.Range.size,Nat.sub_zero,Nat.add_one_sub_one,Nat.div_one,List.range_eq_range']
 generalize List.range' 0 n=is
 induction is generalizing w with
 |nil=>simp[Qt]
 |cons j is ih=>
  simp only[List.forIn_cons,uy,Qt,fh,hi,eQ]
  generalize (part e xs<|j*c).run P w=r1
  cases r1 with
  |ok a w1=>
   simp only[eQ]
   generalize (Instr.checkKey em d e a).run P w1=r2
   cases r2 with
   |ok b w2=>
    simp only[eQ,pj];exact ih
   |halt x w2=>simp[Result.andThen]
  |halt x w1=>simp[Result.andThen]
def acY[DecidableEq α](hl:eG P T n true=true)(hf:∀x,f x=gn (J2 x))(hn:∀x,dm (J2 x)=n)
 (hr:Rows P dep fs 0 J2 eb)(he:∀x y,eb x y=decide (x=y))
 (h1:∀(d:Nat) (xs ys:auA aq6) (w:aq5),(Op.equalIn (d+1) T (.agg xs)<| .agg ys).run P w=(eqL d xs ys fs).run P w)
 (h2:∀(e:Bool) (d:Nat) (xs:auA aq6) (w:aq5),(Instr.checkKey e (d+1) T<| .agg xs).run P w=(Qt e d xs fs).run P w):xO P T f n true (dep+1) where
 lay:=hl
 sz x:=by rw[hf];exact hn x
 ag x:=by rw[hf];rfl
 eq d H u v x y hu hv w:=by
  rw[hf] at hu hv;obtain⟨cs,rfl,k1⟩:=hu;obtain⟨ds,rfl,k2⟩:=hv;rw[<-uj,h1,afG hr d H cs ds x y k1 k2 (jv _)<|jv _,he]
 chk d e H u x hu w:=by
  rw[hf] at hu;obtain⟨cs,rfl,k1⟩:=hu;rw[<-uj,h2,abZ hr d e H cs x k1<|jv _]
 uniq H u v x hu hv:=by
  rw[hf] at hu hv;obtain⟨cs,rfl,k1⟩:=hu;obtain⟨ds,rfl,k2⟩:=hv
  congr 1
  exact Array.ext'<|ZW hr H _ _ x k1 k2
 leaf H u x hu c hc m:=by
  rw[hf] at hu;obtain⟨cs,rfl,k1⟩:=hu;exact ZX hr H _ x k1 c hc m
def FO[DecidableEq α](hl:eG P T n true=true)(hf:∀x,f x=gn (J2 x))(hn:∀x,dm (J2 x)=n)
 (hr:Rows P dep fs 0 J2 eb)(he:∀x y,eb x y=decide (x=y))
 (ht:P.underlying T=some (.struct<|P.fieldsOf T))(hs:P.stoodInHeld T=false)(hnm:OE (P.fieldsOf T).toList=true)(Tp:(P.fieldsOf T).toList.map (fun f=>(f.type,f.offset))=fs):xO P T f n true (dep+1):=
 acY hl hf hn hr he (fun d xs ys w=>by rw[run_equalIn_struct w d T xs ys ht hs,Pd d xs ys _ hnm,Tp]) (fun e d xs w=>by rw[Xw e d T xs ht hnm,Tp])
def JC{E:asr}{k c:Nat}{i:TypeInfo}[DecidableEq α](hl:eG P T n true=true)(hf:∀x,f x=gn (J2 x))(hn:∀x,dm (J2 x)=n)
 (hr:Rows P dep fs 0 J2 eb)(he:∀x y,eb x y=decide (x=y))
 (ht:P.underlying T=some (.array k E))(hi:P.info? E=some i)(hc:P.cellsOf E=c)(Tp:(List.range k).map (fun i=>(E,i*c))=fs):xO P T f n true (dep+1):=
 acY hl hf hn hr he (fun d xs ys w=>by rw[run_equalIn_array w d xs ys ht hi,Ra,hc,Tp]) (fun e d xs w=>by rw[aa3 e d xs ht (c:=c) (fun w=>by rw[run_sizeOf w hi,<-hc]),Tp])
def xO.key[DecidableEq α](h:xO P T f n true dep)(hd:dep<=10000)(hk:∃ud,P.underlying T=some ud/\∀u v,Instr.sameNow ud u v=none):lS P T f where
 eq H u v x y h1 h2 w:=by
  have:=h.eq (10000-dep) H u v x y h1 h2 w;rw[show 10000-dep+dep=10000 from by omega] at this;exact this
 check H u x h1 e w:=by
  have:=h.chk (10000-dep) e H u x h1 w;rw[show 10000-dep+dep=10000 from by omega] at this;exact this
 kind:=hk
 bits H u v x h1 h2:=by
  have:=h.uniq H u v x h1 h2;subst this;have hs:=(f x).shape h1;have ha:=hs.eq;rw[h.ag] at ha;have hl:=h.leaf H u x h1;rw[ha] at hl⊢;show Instr.sameBits (9999+1) (.agg u.cells) (.agg u.cells)=true;simp only[Instr.sameBits,beq_self_eq_true,sQ];rw[dC];intro p hp;have:p.1=p.2/\p.1∈u.cells.toList:=by
   obtain⟨i,hi⟩:=List.mem_iff_getElem?.1 hp;rw[M3] at hi;obtain⟨h5,h6⟩:=hi;rw[h5] at h6;exact⟨fG h6,FK h5⟩
  obtain⟨e1,e2⟩:=this;rw[<-e1];exact hl p.1 e2 _
def xO.eqs[DecidableEq α](h:xO P T f n true dep)(hd:dep<=10000)(hg:P.eqGuardType P.depth T=false):HT P T f where
 run H u v x y h1 h2 w:=by
  have:=h.eq (10000-dep) H u v x y h1 h2 w;rw[show 10000-dep+dep=10000 from by omega] at this;exact this
 guard H u v x y h1 h2 o p q w:=by
  have a1:=((f x).shape h1).eq;have a2:=((f y).shape h2).eq;rw[h.ag] at a1 a2;rw[a1,a2];exact run_eqGuard_agg w o T p q _ _ hg
 agg:=h.ag
end
def aao:xO prog 22 TS 1 false 1:=aaq ax ax
def kt3:xO prog 3 (TI .i64) 1 false 1:=aiX ax ax
def alx:xO prog 157 AQ 3 true 2:=
 JC (k:=3) (E:=3) (c:=1) (fs:=[(3,0),(3,1),(3,2)]) ax (fun _=>rfl) (fun _=>rfl)
  (Rows.cons (acc:=fun x:Int×Int×Int=>x.1) kt3<|Rows.cons (acc:=fun x:Int×Int×Int=>x.2.1) kt3<|Rows.cons (acc:=fun x:Int×Int×Int=>x.2.2) kt3 Rows.nil)
  (fun x y=>by obtain⟨a,b,c⟩:=x;obtain⟨a',b',c'⟩:=y;simp[yB,AE]) ax (i:=(prog.info? 3).get ax) ax ax rfl
def alw:xO prog 159 bF 4 true 3:=
 FO (fs:=[(157,0),(22,3)]) ax (fun _=>rfl) (fun _=>rfl)
  (Rows.cons (acc:=fun x:(Int×Int×Int)×aev=>x.1) alx (Rows.cons (acc:=fun x:(Int×Int×Int)×aev=>x.2) (aao.ad4 (by omega)) Rows.nil))
  (fun x y=>by obtain⟨a,b⟩:=x;obtain⟨a',b'⟩:=y;simp[yB,AE]) ax ax ax ax
def WM:xO prog 24 aR 3 true 2:=
 JC (k:=3) (E:=22) (c:=1) (fs:=[(22,0),(22,1),(22,2)]) ax (fun _=>rfl) (fun _=>rfl)
  (Rows.cons (acc:=fun x:aev×aev×aev=>x.1) aao<|Rows.cons (acc:=fun x:aev×aev×aev=>x.2.1) aao<|Rows.cons (acc:=fun x:aev×aev×aev=>x.2.2) aao Rows.nil)
  (fun x y=>by obtain⟨a,b,c⟩:=x;obtain⟨a',b',c'⟩:=y;simp[yB,AE]) ax (i:=(prog.info? 22).get ax) ax ax rfl
def alv:xO prog 265 iD 6 true 3:=
 FO (fs:=[(24,0),(24,3)]) ax (fun _=>rfl) (fun _=>rfl)
  (Rows.cons (acc:=fun x:auw×auw=>x.1) WM<|Rows.cons (acc:=fun x:auw×auw=>x.2) WM Rows.nil)
  (fun x y=>by obtain⟨a,b⟩:=x;obtain⟨a',b'⟩:=y;simp[yB,AE]) ax ax ax ax
def acV:xO prog 48 fi 2 true 2:=
 JC (k:=2) (E:=22) (c:=1) (fs:=[(22,0),(22,1)]) ax (fun _=>rfl) (fun _=>rfl)
  (Rows.cons (acc:=fun x:aev×aev=>x.1) aao<|Rows.cons (acc:=fun x:aev×aev=>x.2) aao Rows.nil)
  (fun x y=>by obtain⟨a,b⟩:=x;obtain⟨a',b'⟩:=y;simp[yB,AE]) ax (i:=(prog.info? 22).get ax) ax ax rfl
def alu:xO prog 329 bM 4 true 3:=
 JC (k:=2) (E:=48) (c:=2) (fs:=[(48,0),(48,2)]) ax (fun _=>rfl) (fun _=>rfl)
  (Rows.cons (acc:=fun x:(aev×aev)×(aev×aev)=>x.1) acV<|Rows.cons (acc:=fun x:(aev×aev)×(aev×aev)=>x.2) acV Rows.nil)
  (fun x y=>by obtain⟨a,b⟩:=x;obtain⟨a',b'⟩:=y;simp[yB,AE]) ax (i:=(prog.info? 48).get ax) ax ax rfl
def kt4:xO prog 4 aZ 1 false 1:=ago ax ax
def aoD:xO prog 50 gR 5 true 3:=
 FO (fs:=[(48,0),(48,2),(4,4)]) ax (fun _=>rfl) (fun _=>rfl)
  (Rows.cons (acc:=fun x:(aev×aev)×(aev×aev)×Bool=>x.1) acV (Rows.cons (acc:=fun x:(aev×aev)×(aev×aev)×Bool=>x.2.1) acV (Rows.cons (acc:=fun x:(aev×aev)×(aev×aev)×Bool=>x.2.2) (kt4.ad4 (by omega)) Rows.nil)))
  (fun x y=>by obtain⟨a,b,c⟩:=x;obtain⟨a',b',c'⟩:=y;simp[yB,AE]) ax ax ax ax
def aoF:xO prog 26 cn 9 true 3:=
 FO (fs:=[(24,0),(24,3),(24,6)]) ax (fun _=>rfl) (fun _=>rfl)
  (Rows.cons (acc:=fun x:auw×auw×auw=>x.1) WM<|Rows.cons (acc:=fun x:auw×auw×auw=>x.2.1) WM<|Rows.cons (acc:=fun x:auw×auw×auw=>x.2.2) WM Rows.nil)
  (fun x y=>by obtain⟨a,b,c⟩:=x;obtain⟨a',b',c'⟩:=y;simp[yB,AE]) ax ax ax ax
def acX:lS prog 159 bF:=alw.key (by omega) ⟨.struct<|prog.fieldsOf 159,ax,fun _ _=>rfl⟩
def aap:lS prog 24 aR:=WM.key (by omega) ⟨.array 3 22,ax,fun _ _=>rfl⟩
def acW:lS prog 265 iD:=alv.key (by omega) ⟨.struct<|prog.fieldsOf 265,ax,fun _ _=>rfl⟩
def UZ:lS prog 329 bM:=alu.key (by omega) ⟨.array 2 48,ax,fun _ _=>rfl⟩
def am9:HT prog 50 gR:=aoD.eqs (by omega) ax
def ahS:HT prog 48 fi:=acV.eqs (by omega) ax
def adV:HT prog 26 cn:=aoF.eqs (by omega) ax
def ana:HT prog 24 aR:=WM.eqs (by omega) ax
def Acc{Y:Type}(b:Nat)(B:asv Y->auz (asv Y)):Prop:=
 ∀s r,B s=some r->∃ys,r=s++ys/\((s.length*b<=140737488355328->r.length*b<=140737488355328))/\∀s',(s'.length+ys.length)*b<=140737488355328->B s'=some (s'++ys)
section
variable{Y:Type}{b:Nat}
variable{X:Type}{B:X->asv Y->auz (asv Y)}
def Acc.some:Acc (Y:=Y) b fun s=>Option.some s:=fun s r h=>by
 cases h;exact⟨[],by simp,id,fun s' _=>by simp⟩
def Acc.none:Acc (Y:=Y) b fun _=>Option.none:=fun s r h=>by cases h
def Acc.bdc{e:auz X}{K:X->asv Y->auz (asv Y)}(h:∀x,Acc b<|K x):Acc b fun s=>bd e fun x=>K x s:=fun s r hr=>by
 obtain⟨x,he,hr⟩:=qm hr;obtain⟨ys,h1,h2,h3⟩:=h x s r hr;exact⟨ys,h1,h2,fun s' hs=>by rw[he];exact h3 s' hs⟩
def Acc.gc{c:Bool}{K:asv Y->auz (asv Y)}(h:Acc b K):Acc b fun s=>gC c (K s):=fun s r hr=>by
 cases c with
 |false=>cases hr
 |true=>exact h s r hr
def Acc.cond{c:Bool}{A B:asv Y->auz (asv Y)}(h:Acc b A)(k:Acc b B):Acc b fun s=>cond c (A s) (B s):=fun s r hr=>by
 cases c with
 |false=>exact k s r hr
 |true=>exact h s r hr
def Acc.ad6{c:asv Y->Bool}{A B:asv Y->auz (asv Y)}(hc:∀s,c s=c [])(h:Acc b A)(k:Acc b B):Acc b fun s=>_root_.cond (c s) (A s) (B s):=by
 have e:(fun s=>_root_.cond (c s) (A s)<|B s)=fun s=>_root_.cond (c []) (A s) (B s):=by
  funext s;rw[hc s]
 rw[e];exact Acc.cond h k
def Acc.app{e:Y}{K:asv Y->auz (asv Y)}(hb:Nat.ble 1 b=true)(h:Acc b K):Acc b fun s=>bd (fB b s [e]) fun x=>K x:=fun s r hr=>by
 have hb:=gP hb;obtain⟨x,hx,hr⟩:=qm hr;have amC:∀s:asv Y,(s.length+1)*b<=140737488355328->fB b s [e]=Option.some (s++[e]):=fun s hs=>by
  unfold fB;have h1:s.length+1<=9223372036854775807:=by
   have:=Nat.le_mul_of_pos_right (s.length+1) (show 0<b by omega);omega
  simp[hs,h1]
 have hxs:x=s++[e]/\(s.length+1)*b<=140737488355328:=by
  by_cases hc:(s.length+1)*b<=140737488355328
  ·rw[amC s hc] at hx;exact⟨(fG hx).symm,hc⟩
  ·unfold fB at hx;simp[hc] at hx
 obtain⟨rfl,Lw⟩:=hxs;obtain⟨ys,h1,h2,h3⟩:=h _ r hr;refine⟨e::ys,by rw[h1];simp,fun _=>h2 (by simpa using Lw),fun s' hs=>?_⟩;have pN:(s'.length+1+ys.length)*b<=140737488355328:=by
  have:s'.length+(e::ys).length=s'.length+1+ys.length:=by simp;omega
  rwa [this] at hs
 show bd (fB b s' [e]) (fun x=>K x)=_;rw[amC s' (fZ (nE b (by omega)) pN)];show K (s'++[e])=_;rw[h3 (s'++[e]) (by simpa using pN)];simp
def Acc.lp{I:Type}{Body:((asv Y×I)->auz (asv Y))->asv Y×I->auz (asv Y)}(h:∀k:(asv Y×I)->auz (asv Y),(∀i,Acc b fun s=>k (s,i))->∀i,Acc b fun s=>Body k (s,i)):∀n i,Acc b fun s=>lp n Body (s,i)
 |0,i=>Acc.none
 |n+1,i=>h _ (Acc.lp h n) i
def VF{X:Type}{B:X->asv Y->auz (asv Y)}(hB:∀x,Acc b<|B x):∀{l:asv X} {s r:asv Y},GI B l s=Option.some r->s.length*b<=140737488355328->∃Ys:asv (asv Y),Ys.length=l.length/\r=s++Ys.flatten/\r.length*b<=140737488355328/\
  ∀p∈l.zip Ys,∀s',(s'.length+p.2.length)*b<=140737488355328->B p.1 s'=Option.some (s'++p.2)
 |[],s,r,h,hs=>by cases h;exact⟨[],rfl,by simp,hs,by simp⟩
 |x::l,s,r,h,hs=>by
  obtain⟨s1,hx,h⟩:=qm h;obtain⟨ys,h1,h2,h3⟩:=hB x s s1 hx;obtain⟨Ys,k1,k2,k3,k4⟩:=VF hB h<|h2 hs
  refine⟨ys::Ys,by simp[k1],by rw[k2,h1];simp,k3,?_⟩;intro p hp;rw[List.zip_cons_cons,bP] at hp;rcases hp with rfl|hp
  ·exact h3
  ·exact k4 p hp
def Vm{X:Type}{B:X->asv Y->auz (asv Y)}:∀{q:asv (X×asv Y)} {s:asv Y},(∀p∈q,∀s',(s'.length+p.2.length)*b<=140737488355328->B p.1 s'=Option.some (s'++p.2))->(s++(q.map (·.2)).flatten).length*b<=140737488355328->GI B (q.map (·.1)) s=Option.some (s++(q.map (·.2)).flatten)
 |[],s,_,_=>by simp[GI]
 |p::q,s,h,hl=>by
  have VT:(s.length+p.2.length+((q.map (·.2)).flatten).length)*b<=140737488355328:=by
   simpa[uj] using hl
  show bd (B p.1 s) _=_;rw[h p (by simp) s (fZ (nE b (by omega)) VT)];show GI B (q.map (·.1)) (s++p.2)=_;rw[Vm (fun p' hp'=>h p' (by simp[hp'])) (by simpa[uj] using VT)];simp
def acf{Z:Type}:∀{l π:asv X} {Zs:asv Z},π.Perm l->Zs.length=l.length->∃q:asv (X×Z),q.Perm (l.zip Zs)/\q.map (·.1)=π:=by
 intro l π Zs hp
 induction hp generalizing Zs with
 |nil=>intro h;exact⟨[],by simp,rfl⟩
 |cons x hp ih=>
  intro h;cases Zs with
  |nil=>simp at h
  |cons z Zs=>
   obtain⟨q,h1,h2⟩:=ih (by simpa using h);exact⟨(x,z)::q,by simpa using h1,by simp[h2]⟩
 |swap x y l=>
  intro h
  match Zs,h with
  |z1::z2::Zs,h=>
   refine⟨(y,z2)::(x,z1)::l.zip Zs,by simpa using List.Perm.swap _ _ _,?_⟩;have:Zs.length=l.length:=by simpa using h
   simp[List.map_fst_zip,this]
 |trans h1 h2 ih1 ih2=>
  intro h;obtain⟨q2,a1,a2⟩:=ih2 h;obtain⟨q1,b1,b2⟩:=ih1 (Zs:=q2.map (·.2)) (by rw[gG,<-a2,gG]);refine⟨q1,b1.trans ?_,b2⟩;have:(List.zip (q2.map (·.1))<|q2.map (·.2))=q2:=by
   rw[List.zip_map'];simp
  rw[<-a2,this];exact a1
def PB(hB:∀x,Acc b<|B x){l π:asv X}{r:asv Y}(h:GI B l []=Option.some r)(hp:π.Perm l):∃r',GI B π []=Option.some r'/\r'.Perm r:=by
 obtain⟨Ys,h1,h2,h3,h4⟩:=VF hB h (by simp);obtain⟨q,q1,q2⟩:=acf hp h1;have hq:((q.map (·.2)).flatten).Perm r:=by
  rw[h2,AF];refine List.Perm.flatten ?_;have:=q1.map (·.2);rwa [List.map_snd_zip (by omega)] at this
 refine⟨_,by rw[<-q2];exact Vm (b:=b) (fun p hp s' hs=>h4 p (q1.mem_iff.1 hp) s' hs) (by rw[AF,hq.length_eq];exact h3),?_⟩;simpa using hq
end
section
variable{α:Type}[DecidableEq α]{c:α×α->Option Int}
def OP{rk:α->Nat}:∀{s:asv α} {x:α},(∀y∈s,∃v,c (x,y)=some v/\(v<0↔rk x<rk y))->s.Pairwise (fun a b=>rk b<=rk a)->∃s',U4 (fun a b=>c (a,b)) x s=some s'/\s'.Pairwise fun a b=>rk b<=rk a
 |[],x,_,_=>⟨[x],rfl,by simp⟩
 |y::s,x,h,hs=>by
  obtain⟨v,hv,hr⟩:=h y (by simp);obtain⟨hy,pN⟩:=Sy.1 hs;cases hd:decide (v<0) with
  |true=>
   obtain⟨s',h1,h2⟩:=OP (fun z hz=>h z<|fY _ hz) pN;refine⟨y::s',?_,Sy.2 ⟨fun z hz=>?_,h2⟩⟩
   ·show bd (c (x,y)) _=_;rw[hv];show cond (decide<|v<0) _ _=_;rw[hd];show bd (U4 (fun a b=>c (a,b)) x s) _=_;rw[h1];rfl
   ·rcases bP.1 ((FT h1).mem_iff.1 hz) with e|hz
    ·subst e;have:=hr.1<|bg hd
     omega
    ·exact hy z hz
  |false=>
   refine⟨x::y::s,?_,Sy.2 ⟨fun z hz=>?_,hs⟩⟩
   ·show bd (c (x,y)) _=_;rw[hv];show cond (decide<|v<0) _ _=_;rw[hd];rfl
   ·have hn: ¬rk x<rk y:=fun h=>by have:=hr.2 h;simp[this] at hd
    rcases bP.1 hz with e|hz
    ·subst e;omega
    ·have:=hy z hz;omega
def JG{rk:α->Nat}:∀{l s:asv α},(∀x∈s++l,∀y∈s++l,∃v,c (x,y)=some v/\(v<0↔rk x<rk y))->s.Pairwise (fun a b=>rk b<=rk a)->
  ∃s',KH l (fun next x s=>bd (U4 (fun a b=>c (a,b)) x s) next) s (fun s=>some s.reverse)=some s'/\s'.Pairwise (fun a b=>rk a<=rk b)
 |[],s,_,hs=>⟨s.reverse,rfl,List.pairwise_reverse.2 hs⟩
 |x::l,s,h,hs=>by
  obtain⟨s1,h1,h2⟩:=OP (c:=c) (rk:=rk) (s:=s) (x:=x) (fun y hy=>h x (by simp) y (by simp[hy])) hs;have hp:=FT h1;obtain⟨s',h3,h4⟩:=JG (l:=l) (s:=s1) (fun a ha b hb=>by
   have mem:∀z,z∈s1++l->z∈s++x::l:=fun z hz=>by
    rcases mw.1 hz with hz|hz
    ·rcases bP.1 (hp.mem_iff.1 hz) with e|hz
     ·simp[e]
     ·simp[hz]
    ·simp[hz]
   exact h a (mem a ha) b<|mem b hb) h2
  refine⟨s',?_,h4⟩;show bd (U4 (fun a b=>c (a,b)) x s) _=_;rw[h1];exact h3
def K8{l l' r:asv α}(h:iq l c=some r)(hp:l'.Perm l):iq l' c=some r:=by
 obtain⟨h1,h2,h3,h4⟩:=wS h;have mem:∀x∈l',x∈r:=fun x hx=>h1.mem_iff.2<|hp.mem_iff.1 hx
 have key:∀x∈l',∀y∈l',∃v,c (x,y)=some v/\(v<0↔r.idxOf x<r.idxOf y):=fun x hx y hy=>by
  obtain⟨v,hv⟩:=h3 x (hp.mem_iff.1 hx) y<|hp.mem_iff.1 hy
  exact⟨v,hv,IN h2 (mem x hx) (mem y hy) hv⟩
 obtain⟨s',k1,k2⟩:=JG (c:=c) (rk:=fun x=>r.idxOf x) (l:=l') (s:=[]) (by simpa using key) List.Pairwise.nil;have k1:WS (fun a b=>c (a,b)) l'=some s':=k1;have e:s'=r:=QJ h2 ((Lu k1).trans<|hp.trans h1.symm) k2;subst e;unfold iq;rw[k1];show z7 _ s'=_;have g1:Nat.blt l'.length 4611686018427387904=true:=by rw[hp.length_eq];exact oG h4
 have g2:totB c l'=true:=dC.2 fun x hx=>dC.2 fun y hy=>by
  obtain⟨v,hv,_⟩:=key x hx y hy;rw[hv];rfl
 rw[g1,g2,h2];rfl
end
section
variable{r:_}
def z6{s1:(asv<|(auw×auw)×(V3×V3))×(asv<|(auw×auw)×(asv<|Rat×Rat))×Int}(hm:Ge (fun(zX:(auw×auw)×(V3×V3)) (X8:(asv<|V3×V3))=>
 gC (((mix zX.1 s1.2.1).isNone|| !(List.isEmpty<|jc s1.2.1 zX.1 [])))<|
 bd (kK<|jc s1.2.1 zX.1 []) fun QB=>
 lp 18446744073709551616 (fun(k87:((asv<|V3×V3)×Int)->auz _) (Qj:(asv<|V3×V3)×Int)=>
 cond (decide<|Qj.2<(QB.length:Int)) (
 bd (bj QB Qj.2) fun J7=>
 bd (dx zX.2.1 J7.1) fun XM=>
 bd (dr zX.2.2 XM) fun XL=>
 bd (dx zX.2.1 J7.2) fun VK=>
 bd (dr zX.2.2 VK) fun x97=>
 bd (fB 384 Qj.1 ([(XL,x97)]:asv (V3×V3))) fun VZ=>
 bd (aF<|Qj.2+(1:Int)) fun LK=>
 k87 (VZ,LK)
 ) (
 some Qj.1
 )
 ) (X8,(0:Int))
 ) s1.1 [] (fun(X8:(asv<|V3×V3))=>
 bd (iq X8<|fun x=>lf x.1 x.2) fun PV=>
 some PV)=some r):∀π,π.Perm s1.1->Ge (fun(zX:(auw×auw)×(V3×V3)) (X8:(asv<|V3×V3))=>
    gC (((mix zX.1 s1.2.1).isNone|| !(List.isEmpty<|jc s1.2.1 zX.1 [])))<|
    bd (kK<|jc s1.2.1 zX.1 []) fun QB=>
    lp 18446744073709551616 (fun(k87:((asv<|V3×V3)×Int)->auz _) (Qj:(asv<|V3×V3)×Int)=>
     cond (decide<|Qj.2<(QB.length:Int)) (
      bd (bj QB Qj.2) fun J7=>
      bd (dx zX.2.1 J7.1) fun XM=>
      bd (dr zX.2.2 XM) fun XL=>
      bd (dx zX.2.1 J7.2) fun VK=>
      bd (dr zX.2.2 VK) fun x97=>
      bd (fB 384 Qj.1 ([(XL,x97)]:asv (V3×V3))) fun VZ=>
      bd (aF<|Qj.2+(1:Int)) fun LK=>
      k87 (VZ,LK)
     ) (
      some Qj.1
     )
    ) (X8,(0:Int))
   ) π [] (fun(X8:(asv<|V3×V3))=>
    bd (iq X8<|fun x=>lf x.1 x.2) fun PV=>
    some PV)=some r:=by
 intro π hπ;obtain⟨s,hs,hr⟩:=qm hm;obtain⟨s',pN,hp⟩:=PB (b:=384) (by
  intro x
  repeat' (first|exact Acc.some|(refine Acc.lp (fun k hk i=>?_) _ _;dsimp only)|refine Acc.app rfl ?_|refine Acc.gc ?_|refine Acc.ad6 (fun _=>rfl) ?_ ?_|(refine Acc.bdc<|fun x=>?_)|exact hk _|fail)) hs hπ
 unfold Ge;rw[pN];obtain⟨y,hy,hr⟩:=qm hr;show bd (iq s' _) _=_;rw[K8 hy hp];exact hr
def Cm{a0:(asv<|((aev×aev)×(aev×aev))×((Rat×Rat)×(Rat×Rat)))×(asv<|((aev×aev)×(aev×aev))×(asv<|Rat×Rat))×(asv<|((aev×aev)×(aev×aev))×(asv<|Rat×Rat))}(hm:Ge (fun(x2:((aev×aev)×(aev×aev))×((Rat×Rat)×(Rat×Rat))) (s1:(asv<|(Rat×Rat)×(Rat×Rat)×Bool))=>
 gC (((mix x2.1 a0.2.1).isNone|| !(List.isEmpty<|jc a0.2.1 x2.1 [])))<|
 bd (kK<|jc a0.2.1 x2.1 []) fun x5=>
 lp 18446744073709551616 (fun(k8:((asv<|(Rat×Rat)×(Rat×Rat)×Bool)×Int)->auz _) (s7:(asv<|(Rat×Rat)×(Rat×Rat)×Bool)×Int)=>
 cond (decide<|s7.2<(x5.length:Int)) (
 bd (bj x5 s7.2) fun eF=>
 bd (fk x2.2 eF.1) fun fJ=>
 bd (fk x2.2 eF.2) fun gH=>
 bd (fB 264 s7.1 ([(fJ,gH,false)]:asv ((Rat×Rat)×(Rat×Rat)×Bool))) fun ib=>
 bd (aF<|s7.2+(1:Int)) fun jG=>
 k8 (ib,jG)
 ) (
 gC (((mix x2.1 a0.2.2).isNone|| !(List.isEmpty<|jc a0.2.2 x2.1 [])))<|
 bd (kK<|jc a0.2.2 x2.1 []) fun kL=>
 bd (ug kL x5) fun lD=>
 lp 18446744073709551616 (fun(OO:((asv<|(Rat×Rat)×(Rat×Rat)×Bool)×Int)->auz _) (re:(asv<|(Rat×Rat)×(Rat×Rat)×Bool)×Int)=>
 cond (decide<|re.2<(lD.length:Int)) (
 bd (bj lD re.2) fun rA=>
 bd (fk x2.2 rA.1) fun sv=>
 bd (fk x2.2 rA.2) fun rz=>
 bd (fB 264 re.1 ([(sv,rz,true)]:asv ((Rat×Rat)×(Rat×Rat)×Bool))) fun z8=>
 bd (aF<|re.2+(1:Int)) fun vk=>
 OO (z8,vk)
 ) (
 some re.1
 )
 ) (s7.1,(0:Int))
 )
 ) (s1,(0:Int))
 ) a0.1 [] (fun(s1:(asv<|(Rat×Rat)×(Rat×Rat)×Bool))=>
 bd (iq s1<|fun x=>lI x.1 x.2) fun HW=>
 some HW)=some r):∀π,π.Perm a0.1->Ge (fun(x2:((aev×aev)×(aev×aev))×((Rat×Rat)×(Rat×Rat))) (s1:(asv<|(Rat×Rat)×(Rat×Rat)×Bool))=>
  gC (((mix x2.1 a0.2.1).isNone|| !(List.isEmpty<|jc a0.2.1 x2.1 [])))<|
  bd (kK<|jc a0.2.1 x2.1 []) fun x5=>
  lp 18446744073709551616 (fun(k8:((asv<|(Rat×Rat)×(Rat×Rat)×Bool)×Int)->auz _) (s7:(asv<|(Rat×Rat)×(Rat×Rat)×Bool)×Int)=>
   cond (decide<|s7.2<(x5.length:Int)) (
    bd (bj x5 s7.2) fun eF=>
    bd (fk x2.2 eF.1) fun fJ=>
    bd (fk x2.2 eF.2) fun gH=>
    bd (fB 264 s7.1 ([(fJ,gH,false)]:asv ((Rat×Rat)×(Rat×Rat)×Bool))) fun ib=>
    bd (aF<|s7.2+(1:Int)) fun jG=>
    k8 (ib,jG)
   ) (
    gC (((mix x2.1 a0.2.2).isNone|| !(List.isEmpty<|jc a0.2.2 x2.1 [])))<|
    bd (kK<|jc a0.2.2 x2.1 []) fun kL=>
    bd (ug kL x5) fun lD=>
    lp 18446744073709551616 (fun(OO:((asv<|(Rat×Rat)×(Rat×Rat)×Bool)×Int)->auz _) (re:(asv<|(Rat×Rat)×(Rat×Rat)×Bool)×Int)=>
     cond (decide<|re.2<(lD.length:Int)) (
      bd (bj lD re.2) fun rA=>
      bd (fk x2.2 rA.1) fun sv=>
      bd (fk x2.2 rA.2) fun rz=>
      bd (fB 264 re.1 ([(sv,rz,true)]:asv ((Rat×Rat)×(Rat×Rat)×Bool))) fun z8=>
      bd (aF<|re.2+(1:Int)) fun vk=>
      OO (z8,vk)
     ) (
      some re.1
     )
    ) (s7.1,(0:Int))
   )
  ) (s1,(0:Int))
 ) π [] (fun(s1:(asv<|(Rat×Rat)×(Rat×Rat)×Bool))=>
  bd (iq s1<|fun x=>lI x.1 x.2) fun HW=>
  some HW)=some r:=by
 intro π hπ;obtain⟨s,hs,hr⟩:=qm hm;obtain⟨s',pN,hp⟩:=PB (b:=264) (by
  intro x
  repeat' (first|exact Acc.some|(refine Acc.lp (fun k hk i=>?_) _ _;dsimp only)|refine Acc.app rfl ?_|refine Acc.gc ?_|refine Acc.ad6 (fun _=>rfl) ?_ ?_|(refine Acc.bdc<|fun x=>?_)|exact hk _|fail)) hs hπ
 unfold Ge;rw[pN];obtain⟨y,hy,hr⟩:=qm hr;show bd (iq s' _) _=_;rw[K8 hy hp];exact hr
def Kt(x y:Rat):Cj x y=Cj y x:=by
 unfold Cj;rw[Rat.add_comm,Bool.and_comm]
def TM(u v:Rat×Rat×Rat):dr u v=dr v u:=by
 unfold dr;rw[Kt u.1 v.1,Kt u.2.1 v.2.1,Kt u.2.2 v.2.2]
def acg{α:Type}{a b:α}{s:asv α}(h:s.Perm [a,b]):s=[a,b]\/s=[b,a]:=by
 match s,h with
 |[x,y],h=>
  have hx:x∈[a,b]:=h.mem_iff.1 (by simp);simp only[bP,zG,or_false] at hx;rcases hx with rfl|rfl
  ·have:=(List.perm_cons _).1 h;have:=List.perm_singleton.1 this;simp at this;subst this;exact .inl rfl
  ·have h2:=List.perm_singleton.1 ((List.perm_cons _).1<|h.trans<|List.Perm.swap x a []);simp at h2;subst h2;exact .inr rfl
 |[],h=>have:=h.length_eq;simp at this
 |[_],h=>have:=h.length_eq;simp at this
 |_::_::_::_,h=>have:=h.length_eq;simp at this
def BO{s1:(asv<|auw×Int)×Bool×Int}(hm:Ge (fun(QC:auw×Int) (vd:(asv<|aev×aev×aev))=>
 cond (!decide (QC.2=(0:Int))) (
 bd (fB 48 vd ([QC.1]:asv auw)) fun Th=>
 some Th
 ) (
 some vd
 )
 ) s1.1 [] (fun(vd:(asv<|aev×aev×aev))=>
 cond (decide<|(vd.length:Int)=(0:Int)) (
 some (1:Int)
 ) (
 fT (gd (decide<|(vd.length:Int)=(2:Int)) true) (([],[],[])) (bj vd (0:Int)) fun x82=>
 fT (gd (decide<|(vd.length:Int)=(2:Int)) true) (([],[],[])) (bj vd (0:Int)) fun QB=>
 fT (gd (decide<|(vd.length:Int)=(2:Int)) true) ((0,0,0)) (fg QB) fun x86=>
 fT (gd (decide<|(vd.length:Int)=(2:Int)) true) (([],[],[])) (bj vd (1:Int)) fun x88=>
 fT (gd (decide<|(vd.length:Int)=(2:Int)) true) (([],[],[])) (bj vd (1:Int)) fun x90=>
 fT (gd (decide<|(vd.length:Int)=(2:Int)) true) ((0,0,0)) (fg x90) fun x92=>
 fT (gd (decide<|(vd.length:Int)=(2:Int)) true) ((0,0,0)) (dr x86 x92) fun XK=>
 fT (gd (decide<|(vd.length:Int)=(2:Int)) true) (false) (dH XK) fun Zl=>
 cond (((decide<|(vd.length:Int)=(2:Int))&&Zl)) (
 some (2:Int)
 ) (
 some (3:Int)
 )
 ))=some r):∀π,π.Perm s1.1->Ge (fun(QC:auw×Int) (vd:(asv<|aev×aev×aev))=>
     cond (!decide (QC.2=(0:Int))) (
      bd (fB 48 vd ([QC.1]:asv auw)) fun Th=>
      some Th
     ) (
      some vd
     )
    ) π [] (fun(vd:(asv<|aev×aev×aev))=>
     cond (decide<|(vd.length:Int)=(0:Int)) (
      some (1:Int)
     ) (
      fT (gd (decide<|(vd.length:Int)=(2:Int)) true) (([],[],[])) (bj vd (0:Int)) fun x82=>
      fT (gd (decide<|(vd.length:Int)=(2:Int)) true) (([],[],[])) (bj vd (0:Int)) fun QB=>
      fT (gd (decide<|(vd.length:Int)=(2:Int)) true) ((0,0,0)) (fg QB) fun x86=>
      fT (gd (decide<|(vd.length:Int)=(2:Int)) true) (([],[],[])) (bj vd (1:Int)) fun x88=>
      fT (gd (decide<|(vd.length:Int)=(2:Int)) true) (([],[],[])) (bj vd (1:Int)) fun x90=>
      fT (gd (decide<|(vd.length:Int)=(2:Int)) true) ((0,0,0)) (fg x90) fun x92=>
      fT (gd (decide<|(vd.length:Int)=(2:Int)) true) ((0,0,0)) (dr x86 x92) fun XK=>
      fT (gd (decide<|(vd.length:Int)=(2:Int)) true) (false) (dH XK) fun Zl=>
      cond (((decide<|(vd.length:Int)=(2:Int))&&Zl)) (
       some (2:Int)
      ) (
       some (3:Int)
      )
     ))=some r:=by
 intro π hπ;obtain⟨s,hs,hr⟩:=qm hm;obtain⟨s',pN,hp⟩:=PB (b:=48) (by
  intro x
  repeat' (first|exact Acc.some|refine Acc.app rfl ?_|refine Acc.ad6 (fun _=>rfl) ?_ ?_|fail)) hs hπ
 unfold Ge;rw[pN];have hl:=hp.length_eq;by_cases h2:s.length=2
 ·match s,h2,hp,hr with
  |[a,b],_,hp,hr=>
   rcases acg hp with rfl|rfl
   ·exact hr
   ·have e2:∀u v:aev×aev×aev,decide ((([u,v].length:Nat):Int)=(2:Int))=true:=fun _ _=>rfl
    have e0:∀u v:aev×aev×aev,decide ((([u,v].length:Nat):Int)=(0:Int))=false:=fun _ _=>rfl
    have i0:∀u v:aev×aev×aev,bj [u,v] (0:Int)=some u:=fun _ _=>rfl
    have i1:∀u v:aev×aev×aev,bj [u,v] (1:Int)=some v:=fun _ _=>rfl
    have bs:∀{α ρ:Type} (x:α) (K:α->auz ρ),bd (some x) K=K x:=fun _ _=>rfl
    simp only[e2,e0,i0,i1,bs,gd,fT,fA,sQ] at hr⊢;obtain⟨x,hx,hr⟩:=qm hr;obtain⟨y,hy,hr⟩:=qm hr;rw[hy,bs,hx,bs,TM];exact hr
 ·have d2:decide ((s.length:Int)=(2:Int))=false:=bU (by omega);have d3:decide ((s'.length:Int)=(2:Int))=false:=bU (by omega);simp only[d2,gd,fT,CJ,fA] at hr;simp only[bd];simp only[hl,d2,gd,fT,CJ,fA];exact hr
end
end Trn
namespace Te
section
open Go.Shelf Go.Lib
def PT(m n:Nat)(h:n<=m):(⟨(List.replicate m (48:UInt8)).toArray⟩:ByteArray).extract 0 n=⟨(List.replicate n 48).toArray⟩:=by
 apply ByteArray.ext;rw[ByteArray.data_extract];apply Array.ext';simp[List.take_replicate,Nat.min_eq_left h]
set_option maxHeartbeats 4000000 in
set_option maxRecDepth 1000000 in
def aor(n:Nat)(h2:2<=n)(h:n<=64)(w:World):
  Calls prog 299 #[.string ⟨#[48]⟩,.int .i64 n] w fun e w'=>e= .returned (.string ⟨(List.replicate n 48).toArray⟩)/\∃k,w'=w.drewN k:=by
 have e317:∀args w,(callFunc 355 args).run prog w= .ok (.enter 355 args) w:=enters_of func355 Trn.ax rfl;have e232:∀args w,(callFunc 214 args).run prog w= .ok (.enter 214 args) w:=enters_of func214 Trn.ax rfl;have hmul:=fun w=>bits_Mul 1 n (by omega) (by omega) w
 have hp:=fun s w=>strings_HasPrefix s ⟨#[48]⟩ w
 go_enter func299,ntmps299
 go_wp2_with (first|(go_at_fn (355);refine(hmul _).mono ?_;rintro e w' ⟨rfl,rfl⟩)|(go_at_fn (214);refine(hp _ _).mono ?_;rintro e w' ⟨rfl,rfl⟩))
 go_ret
 refine⟨?_,0,by simp[World.drewN_zero]⟩;have hm:n%18446744073709551616=n:=Nat.mod_eq_of_lt (by omega);show Ending.returned (Value.string<|ByteArray.extract _ 0<|n%18446744073709551616)=_;rw[hm]
 congr 2
 exact PT 64 n h
end
end Te
namespace Trn
section
open Go.Shelf
variable[D:DR]
variable{cur:auA aq6}
theorem WX{k n:Nat}{ps qs xs:asv aq6}{w:aq5}{blk:Nat}{E:asr}[Inhabited<|Fin n](hl:xs.length=n*k)(hb:w.heap[blk]? =some (.cells cur E (0,0)))(ht:cur.toList=ps++(xs++qs)):
  Go.Sort.HoldsK (fun i:Fin n=>chunk k xs i) k w blk ps.length (Array.ofFn fun i:Fin n=>i):=by
 unfold Go.Sort.HoldsK Go.Sort.Holds;intro j hj;rw[Go.Sort.size_flatK,CL] at hj;have Hs:cur[ps.length+j]? =xs[j]? :=by
  rw[<-vX,ht,Bk (by omega),Nat.add_sub_cancel_left,xF (by omega)]
 have hk:0<k:=(xD k).elim (fun e=>by subst e;simp at hj) id;have hi:j/k<n:=Nat.div_lt_of_lt_mul (by rw[pF];exact hj);refine⟨?_,by simp[World.frozen?,hb]⟩;rw[Go.Sort.get_flatK _ _ _ _ (by simpa using hj)];rw[Js hb,Hs];have e1:(Array.ofFn fun i:Fin n=>i)[j/k]! =⟨j/k,hi⟩:=by rw[ph (Array.ofFn fun i:Fin n=>i) (j/k) (by simpa using hi)];simp
 rw[e1];have hg:=Rm hl hj;have hlt:j%k<(chunk k xs<|j/k).length:=by rw[qU hl hi];exact uv _ hk
 show xs[j]? =some (id (chunk k xs<|j/k)[j%k]!);rw[<-hg,ph (chunk k xs<|j/k) (j%k) hlt,kQ hlt];rfl
theorem Gg{α:Type}[Inhabited α]{enc:α->asv aq6}{k:Nat}{w:aq5}{blk off m:Nat}{dk:auA α}{os:auA Obj}{E:asr}{fr:Nat×Nat}(hb:w.heap[blk]? =some (.cells cur E fr)):
  (sortWorldK enc k w blk off m dk os).heap[blk]? =some (.cells (Go.Sort.putCells id off (Go.Sort.flatK enc k dk) cur) E fr):=by
 unfold sortWorldK Go.Sort.grow Go.Sort.putRowK Go.Sort.putRow Go.Sort.mapBlock Go.Sort.ahead;simp only[MX,Array.size_modify,lt_of_heap hb,if_pos,CV,hb,yG]
 rfl
theorem R4{ps xs qs:asv aq6}{d:auA aq6}(h:cur.toList=ps++(xs++qs))(hd:d.size=xs.length):(Go.Sort.putCells id ps.length d cur).toList=ps++(d.toList++qs):=by
 have hs:cur.size=ps.length+(xs.length+qs.length):=by rw[<-gN,h];simp
 apply Ju;intro i;rw[vX];unfold Go.Sort.putCells;rw[Array.getElem?_mapIdx,<-vX,h];rcases ln i ps.length with h1|h1
 ·rw[xF h1,xF h1];cases ps[i]? with
  |none=>rfl
  |some v=>simp;omega
 ·rw[Bk h1,Bk h1];rcases ln (i-ps.length) xs.length with h2|h2
  ·rw[xF h2,xF (by simpa[hd] using h2),kQ h2,yG,if_pos ⟨h1,by omega⟩,vX,FM (by omega),ph d _ (by omega)];rfl
  ·have e3:d.toList.length=xs.length:=by rw[<-hd];exact gN
   rw[Bk h2,Bk (by rw[e3];exact h2),e3];cases qs[i-ps.length-xs.length]? with
   |none=>rfl
   |some v=>simp;omega
end
section
open Go.Shelf
variable[D:DR]
variable{P:Program}{ρ:Ren}{A:Type}[DecidableEq A]{τ:A->Ty}{k:Nat}{c:A×A->Option Int}
set_option maxHeartbeats 1000000 in
theorem Wc(L:SlLaysF0.n6 P ρ)(aE:∀w,(isAgg<|ρ.t 24).run P w= .ok true w)(zE:∀w,(Go.sizeOf<|ρ.t 24).run P w= .ok k w)(hc:eN P (ρ.f 6)=true)
  (hn:∀a,(τ a).n=k)(ha:∀a,(τ a).agg=true)(none:∀(p:auz Addr) (cap:Nat) (fv:aq6) (w:aq5),Calls P (ρ.f 6) #[.slice p 0 cap,fv] w fun e w'=>e= .returned (.tuple #[])/\w'=w)
  {l r:asv A}(hm:iq l c=some r){ps qs:asv aq6}:
  gi P (ρ.f 6) [] (.pb (ρ.t 24) ps qs<|lT τ l) (.pb (ρ.t 24) ps qs<|lT τ r) [Gk P (fun x:A×A=>[τ x.1,τ x.2]) (fun x:Int=>[(TI .i64) x]) c] []:=by
 obtain⟨h1,h2,h3,h4⟩:=wS hm;have hrl:r.length=l.length:=h1.length_eq;refine⟨hc,fun w H v pv qv sub gl hp hq hs=>?_⟩;have hp:=yr hp;subst hp;obtain⟨fv,rfl,hfv⟩:=tT hq;obtain⟨g,cap,pL,rfl,JJ,hf⟩:=hfv;obtain⟨blk,lA,cur,xs,rfl,hblk,Hs,gS,hB,Rg⟩:=hs;have hlen:(lT τ l).length=l.length:=gG ..;have OW:(lT τ r).length=l.length:=by rw[gG,hrl]
 rw[hlen];have BE:∀b,Value.ownBlock (.slice (some ⟨blk,ps.length,.none⟩) l.length lA)=some b->H b= .none:=fun b hb=>by cases hb;exact hB
 by_cases hl0:l=[]
 ·subst hl0;have hr:r=[]:=List.Perm.eq_nil h1;subst hr;refine(none _ lA _ w).mono ?_;rintro e w' ⟨rfl,rfl⟩;exact⟨_,rfl,H,(Tr.refl _ _).BE sub BE,⟨blk,lA,cur,xs,rfl,hblk,Hs,gS,hB,Rg⟩,fun b hb=> .inl hb,#[],rfl,rfl⟩
 ·have hpos:0<l.length:=CU.2 hl0
  haveI:Inhabited (Fin l.length):=⟨⟨0,hpos⟩⟩
  obtain⟨GS,SS⟩:=pX hn ha gS
  let cf:Fin l.length->Fin l.length->Int:=fun i j=>(c (l[i],l[j])).getD 0
  have tot:∀i j:Fin l.length,c (l[i],l[j])=some (cf i j):=fun i j=>by
   obtain⟨v,hv⟩:=h3 _ (rp i.2) _<|rp j.2
   have hv:c (l[i],l[j])=some v:=hv;show c (l[i],l[j])=some ((c (l[i],l[j])).getD 0);rw[hv];rfl
  have Xa:=fC.can (D:=DR.strict)<|hf _ _<|tot ⟨0,hpos⟩ ⟨0,hpos⟩
  have hcmp:=Pr (P:=P) (off:=ps.length) hn ha gS sub gl hB JJ hf cf tot;have hd:(Array.ofFn fun i:Fin l.length=>i).size=l.length:=CL;have main:=AnyQ.slices_SortFunc L k aE zE (fun i:Fin l.length=>chunk k xs i) (fun i=>qU GS i.2)
   (fun i u hu=>wY gS u<|zK<|vV hu) cf (T1 hm tot) g cap blk ps.length lA (Array.ofFn fun i:Fin l.length=>i) w
   (fun args w=>jX Xa args w) (by rw[hd];exact hcmp) (WX GS hblk Hs) (lt_of_heap hblk) (by rw[hd];exact h4)
  rw[hd] at main;refine main.mono ?_;rintro e w' ⟨rfl,d',m,os,Re,ac9,rfl⟩;obtain⟨hdz,YT⟩:=QK hm tot Re ac9;have Tp:(Go.Sort.flatK (fun i:Fin l.length=>chunk k xs i) k d').size=l.length*k:=by rw[Go.Sort.size_flatK,hdz]
  refine⟨_,rfl,H,Tr.BE (M:=fun b=>Value.ownBlock (.slice (some ⟨blk,ps.length,.none⟩) l.length lA)=some b) ⟨xq,rfl,rfl,rfl,?_,fun i hi hne=>o0 hi (fun e=>hne (by rw[e];rfl))⟩ sub BE,
   ⟨blk,lA,_,(Go.Sort.flatK (fun i:Fin l.length=>chunk k xs i) k d').toList,by rw[OW],Gg hblk,R4 Hs (by rw[Tp,GS]),?_,hB,Rg⟩,fun b hb=> .inl hb,#[],rfl,rfl⟩
  ·refine HU.of ?_;show w.drawn<=(sortWorldK _ k w blk _ m d' os).drawn;unfold sortWorldK Go.Sort.grow Go.Sort.putRowK Go.Sort.putRow Go.Sort.mapBlock Go.Sort.ahead;exact CR _ _
  ·refine wv (by rw[gN,Tp,hrl]) fun i hi=>?_
   have YQ:i<d'.size:=by omega
   rw[HB (fun i=>qU GS i.2) YQ];rw[ph d' i YQ];have e:r[i]=l[d'[i]]:=by
    have:r[i]? =(d'.toList.map fun i=>l[i])[i]? :=by rw[YT]
    rw[kQ hi,nS,vX,FM YQ] at this;simpa using this
   rw[e];exact SS _ d'[i].2
end
section
variable[D:DR]
variable{l r:asv (Rat×Rat)}
theorem QN{l r:asv Rat}{c:Rat×Rat->auz Int}(hm:iq l c=some r):gi prog 111 [] (.buf 100 4<|lT aY l) (.buf 100 4<|lT aY r) [(Gk prog (fun(x:Rat×Rat)=>[aY x.1,aY x.2])<|fun(x:Int)=>[(TI .i64) x]) c] []:=
 vw (ρ:=Le) X5 (k:=4) isAgg100 sizeOf100 ax (fun _=>rfl) (fun _=>rfl) (AnyF.slices_SortFunc_none X5) hm
theorem Qi{l r:asv Rat}{c:Rat×Rat->auz Bool}(hm:kC l c=some r):AP prog 114 100 4 (lT aY l) [(Gk prog (fun(x:Rat×Rat)=>[aY x.1,aY x.2])<|fun(x:Bool)=>[aZ x]) c] (lT aY r):=
 Dd (k:=4) ax (fun _=>rfl) (fun _=>rfl) Te.Xt
  (Te.Xq func114 mixed rfl underlying3 isAgg3 sizeOf3 zeroValue3 underlying4 isAgg4 sizeOf4 underlying191 isAgg191 sizeOf191 isAgg100 sizeOf100 _ zeroValue100 (by rfl) (by decide)) hm
theorem II{l r:asv Rat}{c:Rat×Rat->auz Bool}(hm:kC l c=some r):F3 prog 114 100 4 (lT aY l) [(Gk prog (fun(x:Rat×Rat)=>[aY x.1,aY x.2])<|fun(x:Bool)=>[aZ x]) c] [(TL aY) r]:=(Qi hm).pub
theorem ZT{l r:asv (V3×V3)}{c:(V3×V3)×(V3×V3)->auz Int}(hm:iq l c=some r):gi prog 167 [] (.buf 177 24<|lT cp l) (.buf 177 24<|lT cp r) [(Gk prog (fun(x:(V3×V3)×(V3×V3))=>[cp x.1,cp x.2])<|fun(x:Int)=>[(TI .i64) x]) c] []:=
 vw (ρ:=Ld) X4 (k:=24) isAgg177 sizeOf177 ax (fun _=>rfl) (fun _=>rfl) (AnyF.slices_SortFunc_none X4) hm
theorem ZS{c:(Rat×Rat)×(Rat×Rat)->auz Int}(hm:iq l c=some r):gi prog 180 [] (.buf 144 8<|lT aV l) (.buf 144 8<|lT aV r) [(Gk prog (fun(x:(Rat×Rat)×(Rat×Rat))=>[aV x.1,aV x.2])<|fun(x:Int)=>[(TI .i64) x]) c] []:=
 vw (ρ:=Lc) X3 (k:=8) isAgg144 sizeOf144 ax (fun _=>rfl) (fun _=>rfl) (AnyF.slices_SortFunc_none X3) hm
theorem Qh{c:(Rat×Rat)×(Rat×Rat)->auz Bool}(hm:kC l c=some r):AP prog 181 144 8 (lT aV l) [(Gk prog (fun(x:(Rat×Rat)×(Rat×Rat))=>[aV x.1,aV x.2])<|fun(x:Bool)=>[aZ x]) c] (lT aV r):=
 Dd (k:=8) ax (fun _=>rfl) (fun _=>rfl) Te.Xs
  (Te.Xp func181 mixed rfl underlying3 isAgg3 sizeOf3 zeroValue3 underlying4 isAgg4 sizeOf4 underlying184 isAgg184 sizeOf184 isAgg144 sizeOf144 _ zeroValue144 (by rfl) (by decide)) hm
theorem R2{c:(Rat×Rat)×(Rat×Rat)->auz Bool}(hm:kC l c=some r):F3 prog 181 144 8 (lT aV l) [(Gk prog (fun(x:(Rat×Rat)×(Rat×Rat))=>[aV x.1,aV x.2])<|fun(x:Bool)=>[aZ x]) c] [(TL aV) r]:=(Qh hm).pub
theorem R1(hm:Kq l=some r):gi prog 186 [] (.buf 144 8<|lT aV l) (.buf 144 8<|lT aV r) [] []:=
 ab1 (ρ:=Oe) aix (k:=8) isAgg144 sizeOf144 ax (fun _=>rfl) (fun _=>rfl) hm
theorem ZR{l r:asv ((Rat×Rat)×(Rat×Rat)×Bool)}{c:((Rat×Rat)×(Rat×Rat)×Bool)×((Rat×Rat)×(Rat×Rat)×Bool)->auz Int}(hm:iq l c=some r):gi prog 230 [] (.buf 146 17<|lT ia l) (.buf 146 17<|lT ia r) [(Gk prog (fun(x:((Rat×Rat)×(Rat×Rat)×Bool)×((Rat×Rat)×(Rat×Rat)×Bool))=>[ia x.1,ia x.2])<|fun(x:Int)=>[(TI .i64) x]) c] []:=
 vw (ρ:=Lb) X2 (k:=17) isAgg146 sizeOf146 ax (fun _=>rfl) (fun _=>rfl) (AnyF.slices_SortFunc_none X2) hm
theorem ZQ{c:(Rat×Rat)×(Rat×Rat)->auz Int}(hm:iq l c=some r):gi prog 238 [] (.buf 269 8<|lT aW l) (.buf 269 8<|lT aW r) [(Gk prog (fun(x:(Rat×Rat)×(Rat×Rat))=>[aW x.1,aW x.2])<|fun(x:Int)=>[(TI .i64) x]) c] []:=
 vw (ρ:=La) X1 (k:=8) isAgg269 sizeOf269 ax (fun _=>rfl) (fun _=>rfl) (AnyF.slices_SortFunc_none X1) hm
theorem ZP{l r:asv ((V3×Rat)×(asv<|Rat×Rat×Rat))}{c:((V3×Rat)×(asv<|Rat×Rat×Rat))×((V3×Rat)×(asv<|Rat×Rat×Rat))->auz Int}(hm:iq l c=some r):gi prog 319 [] (.buf 280 17<|lT aK l) (.buf 280 17<|lT aK r) [(Gk prog (fun(x:((V3×Rat)×(asv<|Rat×Rat×Rat))×((V3×Rat)×(asv<|Rat×Rat×Rat)))=>[aK x.1,aK x.2])<|fun(x:Int)=>[(TI .i64) x]) c] []:=
 vw (ρ:=K9) X0 (k:=17) isAgg280 sizeOf280 ax (fun _=>rfl) (fun _=>rfl) (AnyF.slices_SortFunc_none X0) hm
theorem Qg{l r:asv V3}{c:V3×V3->auz Bool}(hm:kC l c=some r):AP prog 368 102 12 (lT aq l) [(Gk prog (fun(x:V3×V3)=>[aq x.1,aq x.2])<|fun(x:Bool)=>[aZ x]) c] (lT aq r):=
 Dd (k:=12) ax (fun _=>rfl) (fun _=>rfl) Te.Xr
  (Te.Xo func368 mixed rfl underlying3 isAgg3 sizeOf3 zeroValue3 underlying4 isAgg4 sizeOf4 underlying185 isAgg185 sizeOf185 isAgg102 sizeOf102 _ zeroValue102 (by rfl) (by decide)) hm
theorem ZO{l r:asv V3}{c:V3×V3->auz Int}(hm:iq l c=some r):gi prog 405 [] (.buf 102 12<|lT aq l) (.buf 102 12<|lT aq r) [(Gk prog (fun(x:V3×V3)=>[aq x.1,aq x.2])<|fun(x:Int)=>[(TI .i64) x]) c] []:=
 vw (ρ:=Eh) Mp (k:=12) isAgg102 sizeOf102 ax (fun _=>rfl) (fun _=>rfl) (AnyF.slices_SortFunc_none Mp) hm
theorem Wk{l r:asv V3}{c:V3×V3->auz Int}(hm:iq l c=some r){ps qs:asv aq6}:gi prog 405 [] (.pb 102 ps qs<|lT aq l) (.pb 102 ps qs<|lT aq r) [(Gk prog (fun(x:V3×V3)=>[aq x.1,aq x.2])<|fun(x:Int)=>[(TI .i64) x]) c] []:=
 Wc (ρ:=Eh) Mp (k:=12) isAgg102 sizeOf102 ax (fun _=>rfl) (fun _=>rfl) (AnyF.slices_SortFunc_none Mp) hm
end
section
variable{α ρ σ:Type}{r:ρ}
def uO(x:α)(K:α->auz ρ):bd (some x) K=K x:=rfl
def aln(d:α)(e:auz α)(K:α->auz ρ):fT true d e K=bd e K:=rfl
def aiK(d:α)(e:auz α)(K:α->auz ρ):fT false d e K=K d:=rfl
def alC(K:α->auz ρ)(E:(α->auz ρ)->auz ρ):jn K E=E K:=rfl
def am7(b:Bool):gd b true=b:=by cases b<;>rfl
def aaX{n:Nat}(h:n<=9223372036854775807):aF (n:Int)=some (n:Int):=by
 unfold aF B0;rw[bp (show(-9223372036854775808:Int)<=(n:Int) by omega),bp (show(n:Int)<=9223372036854775807 by omega)];rfl
def acK{σ ρ α:Type}(L:asv α)(Bd:(σ->auz ρ)->α->σ->auz ρ)(K:σ->auz ρ)(B:((σ×Int)->auz ρ)->σ×Int->auz ρ)(o:Nat)
  (YH:∀k u (i:Nat) x,L[i]? =some x->B k (u,((i+o:Nat):Int))=Bd (fun u'=>k (u',((i+1+o:Nat):Int))) x u)
  (hend:∀k u,B k (u,((L.length+o:Nat):Int))=K u):
  ∀(F i:Nat) (u:σ),i<=L.length->L.length-i<F->lp F B (u,((i+o:Nat):Int))=KH (L.drop i) Bd u K
 |0,i,u,_,h=>by omega
 |F+1,i,u,hi,hF=>by
  show B (lp F B) (u,_)=_;rcases ln i L.length with h|h
  ·rw[CE h];show _=Bd (fun s=>KH (L.drop<|i+1) Bd s K) L[i] u;rw[YH _ _ i L[i]<|kQ h]
   congr 1
   funext u'
   exact acK L Bd K B o YH hend F (i+1) u' (by omega) (by omega)
  ·have:i=L.length:=by omega
   subst this;rw[hend,yH];rfl
def MG(L:asv α)(Bd:(σ->auz ρ)->α->σ->auz ρ)(K:σ->auz ρ)(o:Nat){B:((σ×Int)->auz ρ)->σ×Int->auz ρ}{z:Int}{F:Nat}{u:σ}(hz:z=(o:Int))(hF:L.length<F)(hm:KH L Bd u K=some r)
 (YH:∀k u (i:Nat) x,L[i]? =some x->B k (u,((i+o:Nat):Int))=Bd (fun u'=>k (u',((i+1+o:Nat):Int))) x u)
 (hend:∀k u,B k (u,((L.length+o:Nat):Int))=K u):lp F B (u,z)=some r:=by
 have h:=acK L Bd K B o YH hend F 0 u (jv _) hF;rw[wG] at h;rw[hz,h];exact hm
def JM{b:Bool}{x r:α}(h:z7 b x=some r):b=true/\x=r:=by
 unfold z7 at h;cases b
 ·cases h
 ·exact⟨rfl,fG h⟩
def WQ(l:asv α)(i:Nat):bj l (i:Int)=l[i]? :=rfl
def N2{c0:asv V3}{L:asv (V3)}(ho:Fk c0=some L)(Bd:(σ->auz ρ)->V3->σ->auz ρ)(K:σ->auz ρ)(u:σ)(hm:KH L Bd u K=some r):jM c0 Bd K u=some r:=by
 obtain⟨hb,rfl⟩:=JM ho;have hb:c0.length<4000000000:=gP hb;unfold jM;refine MG c0 Bd K 0 rfl (by omega) hm ?_ ?_
 ·intro k u i x hx;have hi:i<c0.length:=(jk.1 hx).1;dsimp only;rw[bp (show((i+0:Nat):Int)<(c0.length:Int) by omega)];rw[fU,WQ,ux,hx,uO];refine congrArg (fun f=>Bd f x u)<|funext fun u'=>?_
  rw[show(((i:Nat):Int)+1)=((i+1+0:Nat):Int) from by omega,aaX (by omega),uO]
 ·intro k u;dsimp only;rw[bU (by omega)];rfl
def RZ{c0:V3×V3×V3×V3}{L:asv (V3)}(ho:Mn c0=some L)(Bd:(σ->auz ρ)->V3->σ->auz ρ)(K:σ->auz ρ)(u:σ)(hm:KH L Bd u K=some r):zk c0 Bd K u=some r:=by
 cases ho;unfold zk;refine MG [c0.2.1,c0.2.2.1,c0.2.2.2] Bd K 0 rfl (by simp only[List.length_cons,CN];omega) hm ?_ ?_
 ·intro k u i x hx;have hi:i<3:=(jk.1 hx).1;dsimp only;rw[bp (show((i+0:Nat):Int)<3 by omega)];rw[fU,WQ,ux,hx,uO];refine congrArg (fun f=>Bd f x u)<|funext fun u'=>?_
  rw[show(((i:Nat):Int)+1)=((i+1+0:Nat):Int) from by omega,aaX (by omega),uO]
 ·intro k u
  rfl
def ack{l:asv α}{i:Nat}{x:α×α}(h:(Cl l)[i]? =some x):l[i]? =some x.1/\l[(i+1)%l.length]? =some x.2/\i<l.length:=by
 cases l with
 |nil=>simp[Cl] at h
 |cons a l=>
  unfold Cl at h;rw[M3] at h;obtain⟨h1,h2⟩:=h;have hi:i<(a::l).length:=(jk.1 h1).1;refine⟨h1,?_,hi⟩;simp only[List.length_cons] at hi⊢;rcases ln i l.length with h3|h3
  ·rw[AH (by omega),List.getElem?_cons_succ];rw[xF h3] at h2;exact h2
  ·have:i=l.length:=by omega
   subst this;rw[Nat.mod_self];rw[Bk<|bG _,Nat.sub_self] at h2;exact h2
def QW(l:asv α):(Cl l).length=l.length:=by
 cases l with
 |nil=>rfl
 |cons a l=>simp[Cl]
def Qe{c0:asv V3}{L:asv ((V3×V3))}(ho:Iy c0=some L)(Bd:(σ->auz ρ)->(V3×V3)->σ->auz ρ)(K:σ->auz ρ)(u:σ)(hm:KH L Bd u K=some r):xw c0 Bd K u=some r:=by
 obtain⟨hb,rfl⟩:=JM ho;have hb:c0.length<1000000000:=gP hb;unfold xw;refine MG (Cl c0) Bd K 0 rfl (by rw[QW];omega) hm ?_ ?_
 ·intro k u i x hx;obtain⟨h1,h2,hi⟩:=ack hx;dsimp only;rw[bp (show((i+0:Nat):Int)<(c0.length:Int) by omega)];have ef:aF (((i:Nat):Int)+1)=some ((i+1+0:Nat):Int):=by
   rw[show(((i:Nat):Int)+1)=((i+1+0:Nat):Int) from by omega,aaX (by omega)]
  have er:tC ((i+1+0:Nat):Int) (c0.length:Int)=some (((i+1)%c0.length:Nat):Int):=by
   unfold tC;rw[bU (by omega),fA,Int.tmod_eq_emod_of_nonneg (by omega)];rfl
  rw[fU,WQ,ux,h1,uO,ef,uO,er,uO,WQ,h2,uO];refine congrArg (fun f=>Bd f (x.1,x.2) u)<|funext fun u'=>?_
  rw[uO]
 ·intro k u;dsimp only;rw[bU (by rw[QW];omega)];rfl
def E8{e:auz α}{K:α->auz ρ}(h:bd e K=some r):∃x,e=some x/\K x=some r:=by
 cases e with
 |none=>cases h
 |some x=>exact⟨x,rfl,h⟩
def ann{l m:asv Rat}(h:l.length+m.length<2000000000000):fB 64 l m=some (l++m):=by
 unfold fB;rw[bp (by omega),bp (by omega)];rfl
def N3{c0:Rat}{c1:Rat}{c2:asv Rat}{L:asv (Rat×Rat)}(ho:BG c0 c1 c2=some L)(Bd:(σ->auz ρ)->Rat×Rat->σ->auz ρ)(K:σ->auz ρ)(u:σ)(hm:KH L Bd u K=some r):xB c0 c1 c2 Bd K u=some r:=by
 unfold BG at ho;obtain⟨_,hb,ho⟩:=E8 ho;have hb:c2.length<1000000000:=gP (JM hb).1;unfold xB
 suffices key:∀(F i:Nat) (s:asv Rat),i<=c2.length->c2.length-i<F->s.length<=i+2->
   KH (c2.drop i) (fun next x s=>bd (pK x c0) fun k=>cond (decide<|0<k) (bd (pK x c1) fun j=>cond (decide<|j<0) (next<|s++[x])<|next s)<|next s) s (fun all=>
    bd (iq all<|fun p=>pK p.1 p.2) fun s=>bd (kC s<|fun p=>Dx p.1 p.2) fun c=>z7 (Nat.blt c.length 4000000000)<|c.zip c.tail)=some L->
   lp F (fun(k2:(σ×asv Rat×Int)->auz _) (s1:σ×asv Rat×Int)=>
    cond (decide<|s1.2.2<(c2.length:Int)) (
     jn (fun(s4:σ×asv Rat)=>
      bd (aF<|s1.2.2+(1:Int)) fun kH=>
      k2 (s4.1,s4.2,kH)
     ) fun k5=>
     bd (bj c2 s1.2.2) fun x6=>
     bd (pK x6 c0) fun x8=>
     fT (gd (decide<|(0:Int)<x8) true) (0) (pK x6 c1) fun eF=>
     cond (((decide<|(0:Int)<x8)&&(decide<|eF<(0:Int)))) (
      bd (fB 64 s1.2.1 ([x6]:asv Rat)) fun jK=>
      k5 (s1.1,jK)
     ) (
      k5 (s1.1,s1.2.1)
     )
    ) (
     bd (iq s1.2.1<|fun x=>pK x.1 x.2) fun jH=>
     bd (kC jH<|fun x=>Dx x.1 x.2) fun jR=>
     lp 18446744073709551616 (fun(Tm:(σ×Int)->auz _) (yo:σ×Int)=>
      cond (decide<|yo.2<(jR.length:Int)) (
       bd (aF<|yo.2-(1:Int)) fun uR=>
       bd (bj jR uR) fun AS=>
       bd (bj jR yo.2) fun rA=>
       Bd (fun u=>
       bd (aF<|yo.2+(1:Int)) fun sv=>
       Tm (u,sv)
       ) (AS,rA) yo.1
      ) (
       K yo.1
      )
     ) (s1.1,(1:Int))
    )
   ) (u,s,(i:Int))=some r from
  key _ 0 [c0,c1] (jv _) (by omega) (by simp) ho
 intro F
 induction F with
 |zero=>intro i s _ h;omega
 |succ F ih=>
  intro i s hi hF hs ho;unfold lp;dsimp only;rcases ln i c2.length with h|h
  ·rw[bp (show(i:Int)<(c2.length:Int) by omega)];rw[CE h] at ho;change(bd (pK c2[i] c0) fun k=>cond (decide<|0<k) (bd (pK c2[i] c1) fun j=>cond (decide<|j<0) (KH (c2.drop<|i+1) _ (s++[c2[i]]) _)<|KH (c2.drop<|i+1) _ s _)<|KH (c2.drop<|i+1) _ s _)=some L at ho;obtain⟨k,hk,ho⟩:=E8 ho;have ef:aF (((i:Nat):Int)+1)=some ((i+1:Nat):Int):=by
    rw[show(((i:Nat):Int)+1)=((i+1:Nat):Int) from by omega,aaX (by omega)]
   rw[fU,alC];dsimp only;rw[WQ,kQ h,uO,hk,uO,am7];cases hc:decide ((0:Int)<k) with
   |false=>
    rw[hc,fA] at ho;rw[aiK,CJ,fA,ef];exact ih (i+1) s (by omega) (by omega) (by omega) ho
   |true=>
    rw[hc,fU] at ho;obtain⟨j,hj,ho⟩:=E8 ho;rw[aln,hj,uO,sQ];cases hd:decide (j<0) with
    |true=>
     rw[hd,fU] at ho;rw[fU,ann (by simp only[List.length_singleton];omega),uO,ef];exact ih (i+1) (s++[c2[i]]) (by omega) (by omega) (by rw[List.length_append,List.length_singleton];omega) ho
    |false=>
     rw[hd,fA] at ho;rw[fA,ef];exact ih (i+1) s (by omega) (by omega) (by omega) ho
  ·have hi':i=c2.length:=by omega
   subst hi';rw[bU (by omega)];rw[yH] at ho;change(bd (iq s<|fun p=>pK p.1 p.2) fun s=>bd (kC s<|fun p=>Dx p.1 p.2) fun c=>z7 (Nat.blt c.length 4000000000)<|c.zip c.tail)=some L at ho;obtain⟨t,ht,ho⟩:=E8 ho;obtain⟨c,hc,ho⟩:=E8 ho;obtain⟨hb2,rfl⟩:=JM ho;have hb2:c.length<4000000000:=gP hb2;rw[fA,ht,uO,hc,uO];refine MG (c.zip c.tail) Bd K 1 rfl (by rw[List.length_zip,List.length_tail];omega) hm ?_ ?_
   ·intro k u i x hx;rw[M3,List.getElem?_tail] at hx;obtain⟨h1,h2⟩:=hx;have YQ:i+1<c.length:=(jk.1 h2).1;dsimp only;rw[bp (show((i+1:Nat):Int)<(c.length:Int) by omega)];rw[fU,show(((i+1:Nat):Int)-1)=((i:Nat):Int) from by omega,aaX (by omega),uO,WQ,h1,uO,WQ,h2,uO];refine congrArg (fun f=>Bd f (x.1,x.2) u)<|funext fun u'=>?_
    rw[show(((i+1:Nat):Int)+1)=((i+1+1:Nat):Int) from by omega,aaX (by omega),uO]
   ·intro k u;dsimp only;rw[bU (by rw[List.length_zip,List.length_tail];omega)];rfl
end
section
variable[D:DR]
variable{r:aev}
def ahi{w:aq5}{H:HV}(sub:∀r o,H r=some o->w.heap[r]? =some o)(gl:qn prog H):Lib.TabIs prog w "internal/strconv.uint64pow10" .u64 Lib.pow10Tab:=by
 obtain⟨g,hg,T,hT,e,hu⟩:∃g,prog.globalNamed "internal/strconv.uint64pow10" =some g/\∃T,(prog.globals[g]?).map (·.type)=some T/\∃e,prog.underlying T=some (.array 20 e):=by
  refine⟨((prog.globalNamed "internal/strconv.uint64pow10").getD 0),ax,((prog.globals[((prog.globalNamed "internal/strconv.uint64pow10").getD 0)]?).map (·.type)).getD 0,ax,361,ax⟩
 have:=gl g T hT;unfold Fa at this;rw[hu] at this;obtain⟨E,fr,e'⟩:=this;unfold Lib.TabIs World.var?;rw[hg];show(match w.heap[g]? with|some (.cells cs _ _)=>some cs|_=>none)=_;rw[sub _ _ e'];show some Ck=_
 congr 1
def ait{x:Int}(hm:OG x=some r):cw 297 [TI .i64 x] [TS r]:=by
 unfold OG at hm;cases hb:B0 x
 ·rw[hb] at hm;cases hm
 ·rw[hb] at hm;have hm:some (ff x)=some r:=hm;cases hm;unfold B0 at hb;obtain⟨h1,h2⟩:=eM hb;have h1:=bg h1;have h2:=bg h2;refine qT ax fun w H vs sub gl ha=>?_
  obtain⟨u,rfl,hu⟩:=tT ha;have hu:u= .int .i64 x:=hu;subst hu;refine(strconv_Itoa x h1 h2 w<|ahi sub gl).mono ?_;rintro e w' ⟨rfl,k,os,rfl⟩;refine⟨_,rfl,⟨Te.Py,HU.of<|CR _ _⟩,?_⟩;show Value.string _=Value.string _
  congr 3
  unfold ff Lib.itoa;by_cases h:x<0
  ·rw[if_pos h,bp h,FY];rfl
  ·rw[if_neg h,bU h,FY,show x.natAbs=x.toNat from by omega];rfl
def aiu{x y:Int}(hm:Su x y=some r):cw 298 [TI .u64 x,TI .i64 y] [TS r]:=by
 obtain⟨hb,rfl⟩:=js hm;obtain⟨hb,h3⟩:=eM hb;obtain⟨h1,h2⟩:=eM hb;have h1:=bg h1;have h2:=bg h2;have h3:=bg h3;subst h3;obtain⟨n,rfl⟩:=gQ h1;refine qT ax fun w H vs sub gl ha=>?_
 obtain⟨u,v,rfl,hu,hv⟩:=Cs ha;have hu:u= .int .u64 n:=hu;have hv:v= .int .i64 10:=hv;subst hu;subst hv;refine(Te.S1 n (by omega) w<|ahi sub gl).mono ?_;rintro e w' ⟨rfl,k,os,rfl⟩;refine⟨_,rfl,⟨Te.Py,HU.of<|CR _ _⟩,?_⟩;show Value.string _=Value.string _;rw[Int.toNat_natCast,FY]
def air{x:aev}{y:Int}(hm:St x y=some r):cw 299 [TS x,TI .i64 y] [TS r]:=by
 obtain⟨hb,rfl⟩:=js hm;obtain⟨hb,h3⟩:=eM hb;obtain⟨h1,h2⟩:=eM hb;have h1:=bg h1;have h2:=bg h2;have h3:=bg h3;subst h3;obtain⟨n,rfl⟩:=gQ h1;refine qT ax fun w H vs sub gl ha=>?_
 obtain⟨u,v,rfl,hu,hv⟩:=Cs ha;have hu:u= .string ⟨#[48]⟩:=hu;have hv:v= .int .i64 n:=hv;subst hu;subst hv;rw[Int.toNat_natCast];rcases(show n=0\/n=1\/2<=n by omega) with h|h|h
 ·subst h;refine(strings_Repeat_zero ⟨#[48]⟩ w).mono ?_;rintro e w' ⟨rfl,rfl⟩;exact⟨_,rfl,F4.refl _ _,rfl⟩
 ·subst h;refine(strings_Repeat_one ⟨#[48]⟩ w).mono ?_;rintro e w' ⟨rfl,rfl⟩;exact⟨_,rfl,F4.refl _ _,rfl⟩
 ·refine(Te.aor n h (by omega) w).mono ?_;rintro e w' ⟨rfl,k,rfl⟩;refine⟨_,rfl,⟨⟨rfl,rfl,rfl,bG _,fun _ _=>rfl⟩,HU.of<|CR _ _⟩,?_⟩;show Value.string _=Value.string _;rw[Ya]
end
end Trn
