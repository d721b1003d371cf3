/-
  Part of the proof of DrawViews.
-/
import Derived.Test.YtgmphoejohhmgaaGreatDoorHb
set_option maxRecDepth 100000
set_option maxHeartbeats 20000000
set_option linter.all false
open Go Go.RowKit Go.Proofs Go.Proofs.Tryz
namespace Trn
section
variable{P:Program}
variable{n:Nat}{T:aq9}{α:Type}{f:α->Ty}{dep:Nat}{I5:α->ard Ty}{eb:α->α->Bool}{fs:ard (aq9×Nat)}
def Z8(em:Bool)(d:Nat){t e:aq9}{c:Nat}(xs:ath apU){w:apT}(hu:P.underlying t=some (.array n e))(hi:∀w,(Go.sizeOf e).run P w= .ok c w):
  (Instr.checkKey em (d+1) t<| .agg xs).run P w=(Pt em d xs<|(List.range n).map fun i=>(e,i*c)).run P w:=by
 simp only[Instr.checkKey,eN,pt hu,eE];simp only[Std.Legacy.Range.forIn_eq_forIn_range',Std.Legacy.Range.size,Nat.sub_zero,Nat.add_one_sub_one,Nat.div_one,List.range_eq_range']
 generalize List.range' 0 n=is
 induction is generalizing w with
 |nil=>simp[Pt]
 |cons j is ih=>
  simp only[List.forIn_cons,tH,Pt,eN,hi,eE]
  generalize (part e xs<|j*c).run P w=r1
  cases r1 with
  |ok a w1=>
   simp only[eE]
   generalize (Instr.checkKey em d e a).run P w1=r2
   cases r2 with
   |ok b w2=>
    simp only[eE,ot];exact ih
   |halt x w2=>simp[Result.andThen]
  |halt x w1=>simp[Result.andThen]
def abS[DecidableEq α](hl:dR P T n true=true)(hf:∀x,f x=fJ (I5 x))(hn:∀x,cw (I5 x)=n)
 (hr:Rows P dep fs 0 I5 eb)(he:∀x y,eb x y=decide (x=y))
 (h1:∀(d:Nat) (xs ys:ath apU) (w:apT),(Op.equalIn (d+1) T (.agg xs)<| .agg ys).run P w=(eqL d xs ys fs).run P w)
 (h2:∀(e:Bool) (d:Nat) (xs:ath apU) (w:apT),(Instr.checkKey e (d+1) T<| .agg xs).run P w=(Pt e d xs fs).run P w):wT P T f n true (dep+1) where
 lay:=hl
 sz x:=by rw[hf];exact hn x
 ag x:=by rw[hf];rfl
 eq d H u v x y hu hv w:=by
  rw[hf] at hu hv;obtain⟨cs,rfl,k1⟩:=hu;obtain⟨ds,rfl,k2⟩:=hv;rw[<-tu,h1,aeF hr d H cs ds x y k1 k2 (jc _)<|jc _,he]
 chk d e H u x hu w:=by
  rw[hf] at hu;obtain⟨cs,rfl,k1⟩:=hu;rw[<-tu,h2,aa0 hr d e H cs x k1<|jc _]
 uniq H u v x hu hv:=by
  rw[hf] at hu hv;obtain⟨cs,rfl,k1⟩:=hu;obtain⟨ds,rfl,k2⟩:=hv
  congr 1
  exact Array.ext'<|Y4 hr H _ _ x k1 k2
 leaf H u x hu c hc m:=by
  rw[hf] at hu;obtain⟨cs,rfl,k1⟩:=hu;exact Y5 hr H _ x k1 c hc m
def EK[DecidableEq α](hl:dR P T n true=true)(hf:∀x,f x=fJ (I5 x))(hn:∀x,cw (I5 x)=n)
 (hr:Rows P dep fs 0 I5 eb)(he:∀x y,eb x y=decide (x=y))
 (ht:P.underlying T=some (.struct<|P.fieldsOf T))(hs:P.stoodInHeld T=false)(hnm:NG (P.fieldsOf T).toList=true)(Sw:(P.fieldsOf T).toList.map (fun f=>(f.type,f.offset))=fs):wT P T f n true (dep+1):=
 abS hl hf hn hr he (fun d xs ys w=>by rw[run_equalIn_struct w d T xs ys ht hs,Oc d xs ys _ hnm,Sw]) (fun e d xs w=>by rw[Wu e d T xs ht hnm,Sw])
def IE{E:aq9}{k c:Nat}{i:TypeInfo}[DecidableEq α](hl:dR P T n true=true)(hf:∀x,f x=fJ (I5 x))(hn:∀x,cw (I5 x)=n)
 (hr:Rows P dep fs 0 I5 eb)(he:∀x y,eb x y=decide (x=y))
 (ht:P.underlying T=some (.array k E))(hi:P.info? E=some i)(hc:P.cellsOf E=c)(Sw:(List.range k).map (fun i=>(E,i*c))=fs):wT P T f n true (dep+1):=
 abS hl hf hn hr he (fun d xs ys w=>by rw[run_equalIn_array w d xs ys ht hi,Qg,hc,Sw]) (fun e d xs w=>by rw[Z8 e d xs ht (c:=c) (fun w=>by rw[run_sizeOf w hi,<-hc]),Sw])
def wT.key[DecidableEq α](h:wT P T f n true dep)(hd:dep<=10000)(hk:∃ud,P.underlying T=some ud/\∀u v,Instr.sameNow ud u v=none):kX P T f where
 eq H u v x y h1 h2 w:=by
  have:=h.eq (10000-dep) H u v x y h1 h2 w;rw[show 10000-dep+dep=10000 from by omega] at this;exact this
 check H u x h1 e w:=by
  have:=h.chk (10000-dep) e H u x h1 w;rw[show 10000-dep+dep=10000 from by omega] at this;exact this
 kind:=hk
 bits H u v x h1 h2:=by
  have:=h.uniq H u v x h1 h2;subst this;have hs:=(f x).shape h1;have ha:=hs.eq;rw[h.ag] at ha;have hl:=h.leaf H u x h1;rw[ha] at hl⊢;show Instr.sameBits (9999+1) (.agg u.cells) (.agg u.cells)=true;simp only[Instr.sameBits,LR,pq];rw[db];intro p hp;have:p.1=p.2/\p.1∈u.cells.toList:=by
   obtain⟨i,hi⟩:=List.mem_iff_getElem?.1 hp;rw[L8] at hi;obtain⟨h5,h6⟩:=hi;rw[h5] at h6;exact⟨fj h6,B6 h5⟩
  obtain⟨e1,e2⟩:=this;rw[<-e1];exact hl p.1 e2 _
def wT.eqs[DecidableEq α](h:wT P T f n true dep)(hd:dep<=10000)(hg:P.eqGuardType P.depth T=false):GM P T f where
 run H u v x y h1 h2 w:=by
  have:=h.eq (10000-dep) H u v x y h1 h2 w;rw[show 10000-dep+dep=10000 from by omega] at this;exact this
 guard H u v x y h1 h2 o p q w:=by
  have a1:=((f x).shape h1).eq;have a2:=((f y).shape h2).eq;rw[h.ag] at a1 a2;rw[a1,a2];exact run_eqGuard_agg w o T p q _ _ hg
 agg:=h.ag
end
def EL:wT prog 22 TS 1 false 1:=Zu (by kernel_rfl) (by kernel_rfl)
def ahT:wT prog 3 (TI .i64) 1 false 1:=ahR (by kernel_rfl) (by kernel_rfl)
def akw:wT prog 4 aY 1 false 1:=afk (by kernel_rfl) (by kernel_rfl)
abbrev KV:=adx×adx×adx
abbrev KR:=adx×adx
def VQ:wT prog 24 aW 3 true 2:=
 IE (k:=3) (E:=22) (c:=1) (fs:=[(22,0),(22,1),(22,2)]) (by kernel_rfl) (fun _=>rfl) (fun _=>rfl)
  (Rows.cons (acc:=fun x:KV=>x.1) EL<|Rows.cons (acc:=fun x:KV=>x.2.1) EL<|Rows.cons (acc:=fun x:KV=>x.2.2) EL Rows.nil)
  (fun x y=>by obtain⟨a,b,c⟩:=x;obtain⟨a',b',c'⟩:=y;simp[xy,zx]) (by kernel_rfl) (i:=(prog.info? 22).get (by kernel_rfl)) (by kernel_rfl) (by kernel_rfl) rfl
def T7:wT prog 30 eh 2 true 2:=
 IE (k:=2) (E:=22) (c:=1) (fs:=[(22,0),(22,1)]) (by kernel_rfl) (fun _=>rfl) (fun _=>rfl)
  (Rows.cons (acc:=fun x:KR=>x.1) EL<|Rows.cons (acc:=fun x:KR=>x.2) EL Rows.nil)
  (fun x y=>by obtain⟨a,b⟩:=x;obtain⟨a',b'⟩:=y;simp[xy,zx]) (by kernel_rfl) (i:=(prog.info? 22).get (by kernel_rfl)) (by kernel_rfl) (by kernel_rfl) rfl
def aku:wT prog 112 zP 3 true 2:=
 IE (k:=3) (E:=3) (c:=1) (fs:=[(3,0),(3,1),(3,2)]) (by kernel_rfl) (fun _=>rfl) (fun _=>rfl)
  (Rows.cons (acc:=fun x:Int×Int×Int=>x.1) ahT<|Rows.cons (acc:=fun x:Int×Int×Int=>x.2.1) ahT<|Rows.cons (acc:=fun x:Int×Int×Int=>x.2.2) ahT Rows.nil)
  (fun x y=>by obtain⟨a,b,c⟩:=x;obtain⟨a',b',c'⟩:=y;simp[xy,zx]) (by kernel_rfl) (i:=(prog.info? 3).get (by kernel_rfl)) (by kernel_rfl) (by kernel_rfl) rfl
def akv:wT prog 114 bz 4 true 3:=
 EK (fs:=[(112,0),(22,3)]) (by kernel_rfl) (fun _=>rfl) (fun _=>rfl)
  (Rows.cons (acc:=fun x:agW=>x.1) aku (Rows.cons (acc:=fun x:agW=>x.2) (EL.ac5 (by omega)) Rows.nil))
  (fun x y=>by obtain⟨a,b⟩:=x;obtain⟨a',b'⟩:=y;simp[xy,zx]) (by kernel_rfl) (by kernel_rfl) (by kernel_rfl) (by kernel_rfl)
def akt:wT prog 222 ia 6 true 3:=
 EK (fs:=[(24,0),(24,3)]) (by kernel_rfl) (fun _=>rfl) (fun _=>rfl)
  (Rows.cons (acc:=fun x:KV×KV=>x.1) VQ<|Rows.cons (acc:=fun x:KV×KV=>x.2) VQ Rows.nil)
  (fun x y=>by obtain⟨a,b⟩:=x;obtain⟨a',b'⟩:=y;simp[xy,zx]) (by kernel_rfl) (by kernel_rfl) (by kernel_rfl) (by kernel_rfl)
def ahS:wT prog 300 bK 4 true 3:=
 IE (k:=2) (E:=30) (c:=2) (fs:=[(30,0),(30,2)]) (by kernel_rfl) (fun _=>rfl) (fun _=>rfl)
  (Rows.cons (acc:=fun x:KR×KR=>x.1) T7<|Rows.cons (acc:=fun x:KR×KR=>x.2) T7 Rows.nil)
  (fun x y=>by obtain⟨a,b⟩:=x;obtain⟨a',b'⟩:=y;simp[xy,zx]) (by kernel_rfl) (i:=(prog.info? 30).get (by kernel_rfl)) (by kernel_rfl) (by kernel_rfl) rfl
def aks:wT prog 78 gn 5 true 3:=
 EK (fs:=[(30,0),(30,2),(4,4)]) (by kernel_rfl) (fun _=>rfl) (fun _=>rfl)
  (Rows.cons (acc:=fun x:KR×KR×Bool=>x.1) T7 (Rows.cons (acc:=fun x:KR×KR×Bool=>x.2.1) T7 (Rows.cons (acc:=fun x:KR×KR×Bool=>x.2.2) (akw.ac5 (by omega)) Rows.nil)))
  (fun x y=>by obtain⟨a,b,c⟩:=x;obtain⟨a',b',c'⟩:=y;simp[xy,zx]) (by kernel_rfl) (by kernel_rfl) (by kernel_rfl) (by kernel_rfl)
def akr:wT prog 26 cz 9 true 3:=
 EK (fs:=[(24,0),(24,3),(24,6)]) (by kernel_rfl) (fun _=>rfl) (fun _=>rfl)
  (Rows.cons (acc:=fun x:KV×KV×KV=>x.1) VQ<|Rows.cons (acc:=fun x:KV×KV×KV=>x.2.1) VQ<|Rows.cons (acc:=fun x:KV×KV×KV=>x.2.2) VQ Rows.nil)
  (fun x y=>by obtain⟨a,b,c⟩:=x;obtain⟨a',b',c'⟩:=y;simp[xy,zx]) (by kernel_rfl) (by kernel_rfl) (by kernel_rfl) (by kernel_rfl)
def abR:kX prog 114 bz:=akv.key (by omega) ⟨.struct<|prog.fieldsOf 114,by kernel_rfl,fun _ _=>rfl⟩
def Zt:kX prog 24 aW:=VQ.key (by omega) ⟨.array 3 22,by kernel_rfl,fun _ _=>rfl⟩
def abQ:kX prog 222 ia:=akt.key (by omega) ⟨.struct<|prog.fieldsOf 222,by kernel_rfl,fun _ _=>rfl⟩
def T6:kX prog 300 bK:=ahS.key (by omega) ⟨.array 2 30,by kernel_rfl,fun _ _=>rfl⟩
def al6:GM prog 78 gn:=aks.eqs (by omega) (by kernel_rfl)
def X8:GM prog 30 eh:=T7.eqs (by omega) (by kernel_rfl)
def al7:GM prog 26 cz:=akr.eqs (by omega) (by kernel_rfl)
def al8:GM prog 24 aW:=VQ.eqs (by omega) (by kernel_rfl)
def Acc{Y:Type}(b:Nat)(B:ard Y->atg (ard Y)):Prop:=
 ∀s r,B s=some r->∃ys,r=s++ys/\((s.length*b<=140737488355328->r.length*b<=140737488355328))/\∀s',(s'.length+ys.length)*b<=140737488355328->B s'=some (s'++ys)
section
variable{Y:Type}{b:Nat}
variable{X:Type}{B:X->ard Y->atg (ard Y)}
def Acc.some:Acc (Y:=Y) b fun s=>Option.some s:=fun s r h=>by
 cases h;exact⟨[],by simp,id,fun s' _=>by simp⟩
def Acc.none:Acc (Y:=Y) b fun _=>Option.none:=fun s r h=>by cases h
def Acc.bdc{e:atg X}{K:X->ard Y->atg (ard Y)}(h:∀x,Acc b<|K x):Acc b fun s=>bd e fun x=>K x s:=fun s r hr=>by
 obtain⟨x,he,hr⟩:=pH hr;obtain⟨ys,h1,h2,h3⟩:=h x s r hr;exact⟨ys,h1,h2,fun s' hs=>by rw[he];exact h3 s' hs⟩
def Acc.gc{c:Bool}{K:ard Y->atg (ard Y)}(h:Acc b K):Acc b fun s=>gC c (K s):=fun s r hr=>by
 cases c with
 |false=>cases hr
 |true=>exact h s r hr
def Acc.cond{c:Bool}{A B:ard Y->atg (ard Y)}(h:Acc b A)(k:Acc b B):Acc b fun s=>cond c (A s) (B s):=fun s r hr=>by
 cases c with
 |false=>exact k s r hr
 |true=>exact h s r hr
def Acc.ac8{c:ard Y->Bool}{A B:ard Y->atg (ard Y)}(hc:∀s,c s=c [])(h:Acc b A)(k:Acc b B):Acc b fun s=>_root_.cond (c s) (A s) (B s):=by
 have e:(fun s=>_root_.cond (c s) (A s)<|B s)=fun s=>_root_.cond (c []) (A s) (B s):=by
  funext s;rw[hc s]
 rw[e];exact Acc.cond h k
def Acc.app{e:Y}{K:ard Y->atg (ard Y)}(hb:Nat.ble 1 b=true)(h:Acc b K):Acc b fun s=>bd (fe b s [e]) fun x=>K x:=fun s r hr=>by
 have hb:=gj hb;obtain⟨x,hx,hr⟩:=pH hr;have alB:∀s:ard Y,(s.length+1)*b<=140737488355328->fe b s [e]=Option.some (s++[e]):=fun s hs=>by
  unfold fe;have h1:s.length+1<=9223372036854775807:=by
   have:=Nat.le_mul_of_pos_right (s.length+1) (show 0<b by omega);omega
  simp[hs,h1]
 have hxs:x=s++[e]/\(s.length+1)*b<=140737488355328:=by
  by_cases hc:(s.length+1)*b<=140737488355328
  ·rw[alB s hc] at hx;exact⟨(fj hx).symm,hc⟩
  ·unfold fe at hx;simp[hc] at hx
 obtain⟨rfl,Kz⟩:=hxs;obtain⟨ys,h1,h2,h3⟩:=h _ r hr;refine⟨e::ys,by rw[h1];simp,fun _=>h2 (by simpa using Kz),fun s' hs=>?_⟩;have oV:(s'.length+1+ys.length)*b<=140737488355328:=by
  have:s'.length+(e::ys).length=s'.length+1+ys.length:=by simp;omega
  rwa [this] at hs
 show bd (fe b s' [e]) (fun x=>K x)=_;rw[alB s' (fc (mI b (by omega)) oV)];show K (s'++[e])=_;rw[h3 (s'++[e]) (by simpa using oV)];simp
def Acc.lp{I:Type}{Body:((ard Y×I)->atg (ard Y))->ard Y×I->atg (ard Y)}(h:∀k:(ard Y×I)->atg (ard Y),(∀i,Acc b fun s=>k (s,i))->∀i,Acc b fun s=>Body k (s,i)):∀n i,Acc b fun s=>lp n Body (s,i)
 |0,i=>Acc.none
 |n+1,i=>h _ (Acc.lp h n) i
def UI{X:Type}{B:X->ard Y->atg (ard Y)}(hB:∀x,Acc b<|B x):∀{l:ard X} {s r:ard Y},FI B l s=Option.some r->s.length*b<=140737488355328->∃Ys:ard (ard Y),Ys.length=l.length/\r=s++Ys.flatten/\r.length*b<=140737488355328/\
  ∀p∈l.zip Ys,∀s',(s'.length+p.2.length)*b<=140737488355328->B p.1 s'=Option.some (s'++p.2)
 |[],s,r,h,hs=>by cases h;exact⟨[],rfl,by simp,hs,by simp⟩
 |x::l,s,r,h,hs=>by
  obtain⟨s1,hx,h⟩:=pH h;obtain⟨ys,h1,h2,h3⟩:=hB x s s1 hx;obtain⟨Ys,k1,k2,k3,k4⟩:=UI hB h<|h2 hs
  refine⟨ys::Ys,by simp[k1],by rw[k2,h1];simp,k3,?_⟩;intro p hp;rw[List.zip_cons_cons,bM] at hp;rcases hp with rfl|hp
  ·exact h3
  ·exact k4 p hp
def Up{X:Type}{B:X->ard Y->atg (ard Y)}:∀{q:ard (X×ard Y)} {s:ard Y},(∀p∈q,∀s',(s'.length+p.2.length)*b<=140737488355328->B p.1 s'=Option.some (s'++p.2))->(s++(q.map (·.2)).flatten).length*b<=140737488355328->FI B (q.map (·.1)) s=Option.some (s++(q.map (·.2)).flatten)
 |[],s,_,_=>by simp[FI]
 |p::q,s,h,hl=>by
  have UX:(s.length+p.2.length+((q.map (·.2)).flatten).length)*b<=140737488355328:=by
   simpa[tu] using hl
  show bd (B p.1 s) _=_;rw[h p (by simp) s (fc (mI b (by omega)) UX)];show FI B (q.map (·.1)) (s++p.2)=_;rw[Up (fun p' hp'=>h p' (by simp[hp'])) (by simpa[tu] using UX)];simp
def abb{Z:Type}:∀{l π:ard X} {Zs:ard Z},π.Perm l->Zs.length=l.length->∃q:ard (X×Z),q.Perm (l.zip Zs)/\q.map (·.1)=π:=by
 intro l π Zs hp
 induction hp generalizing Zs with
 |nil=>intro h;exact⟨[],by simp,rfl⟩
 |cons x hp ih=>
  intro h;cases Zs with
  |nil=>simp at h
  |cons z Zs=>
   obtain⟨q,h1,h2⟩:=ih (by simpa using h);exact⟨(x,z)::q,by simpa using h1,by simp[h2]⟩
 |swap x y l=>
  intro h
  match Zs,h with
  |z1::z2::Zs,h=>
   refine⟨(y,z2)::(x,z1)::l.zip Zs,by simpa using List.Perm.swap _ _ _,?_⟩;have:Zs.length=l.length:=by simpa using h
   simp[List.map_fst_zip,this]
 |trans h1 h2 ih1 ih2=>
  intro h;obtain⟨q2,a1,a2⟩:=ih2 h;obtain⟨q1,b1,b2⟩:=ih1 (Zs:=q2.map (·.2)) (by rw[fW,<-a2,fW]);refine⟨q1,b1.trans ?_,b2⟩;have:(List.zip (q2.map (·.1))<|q2.map (·.2))=q2:=by
   rw[List.zip_map'];simp
  rw[<-a2,this];exact a1
def OD(hB:∀x,Acc b<|B x){l π:ard X}{r:ard Y}(h:FI B l []=Option.some r)(hp:π.Perm l):∃r',FI B π []=Option.some r'/\r'.Perm r:=by
 obtain⟨Ys,h1,h2,h3,h4⟩:=UI hB h (by simp);obtain⟨q,q1,q2⟩:=abb hp h1;have hq:((q.map (·.2)).flatten).Perm r:=by
  rw[h2,zz];refine List.Perm.flatten ?_;have:=q1.map (·.2);rwa [List.map_snd_zip (by omega)] at this
 refine⟨_,by rw[<-q2];exact Up (b:=b) (fun p hp s' hs=>h4 p (q1.mem_iff.1 hp) s' hs) (by rw[zz,hq.length_eq];exact h3),?_⟩;simpa using hq
end
section
variable{α:Type}[DecidableEq α]{c:α×α->Option Int}
def NQ{rk:α->Nat}:∀{s:ard α} {x:α},(∀y∈s,∃v,c (x,y)=some v/\(v<0↔rk x<rk y))->s.Pairwise (fun a b=>rk b<=rk a)->∃s',T9 (fun a b=>c (a,b)) x s=some s'/\s'.Pairwise fun a b=>rk b<=rk a
 |[],x,_,_=>⟨[x],rfl,by simp⟩
 |y::s,x,h,hs=>by
  obtain⟨v,hv,hr⟩:=h y (by simp);obtain⟨hy,oV⟩:=List.pairwise_cons.1 hs;cases hd:decide (v<0) with
  |true=>
   obtain⟨s',h1,h2⟩:=NQ (fun z hz=>h z<|fC _ hz) oV;refine⟨y::s',?_,List.pairwise_cons.2 ⟨fun z hz=>?_,h2⟩⟩
   ·show bd (c (x,y)) _=_;rw[hv];show cond (decide<|v<0) _ _=_;rw[hd];show bd (T9 (fun a b=>c (a,b)) x s) _=_;rw[h1];rfl
   ·rcases bM.1 ((EP h1).mem_iff.1 hz) with e|hz
    ·subst e;have:=hr.1<|bf hd
     omega
    ·exact hy z hz
  |false=>
   refine⟨x::y::s,?_,List.pairwise_cons.2 ⟨fun z hz=>?_,hs⟩⟩
   ·show bd (c (x,y)) _=_;rw[hv];show cond (decide<|v<0) _ _=_;rw[hd];rfl
   ·have hn: ¬rk x<rk y:=fun h=>by have:=hr.2 h;simp[this] at hd
    rcases bM.1 hz with e|hz
    ·subst e;omega
    ·have:=hy z hz;omega
def IH{rk:α->Nat}:∀{l s:ard α},(∀x∈s++l,∀y∈s++l,∃v,c (x,y)=some v/\(v<0↔rk x<rk y))->s.Pairwise (fun a b=>rk b<=rk a)->
  ∃s',Kw l (fun next x s=>bd (T9 (fun a b=>c (a,b)) x s) next) s (fun s=>some s.reverse)=some s'/\s'.Pairwise (fun a b=>rk a<=rk b)
 |[],s,_,hs=>⟨s.reverse,rfl,List.pairwise_reverse.2 hs⟩
 |x::l,s,h,hs=>by
  obtain⟨s1,h1,h2⟩:=NQ (c:=c) (rk:=rk) (s:=s) (x:=x) (fun y hy=>h x (by simp) y (by simp[hy])) hs;have hp:=EP h1;obtain⟨s',h3,h4⟩:=IH (l:=l) (s:=s1) (fun a ha b hb=>by
   have mem:∀z,z∈s1++l->z∈s++x::l:=fun z hz=>by
    rcases lN.1 hz with hz|hz
    ·rcases bM.1 (hp.mem_iff.1 hz) with e|hz
     ·simp[e]
     ·simp[hz]
    ·simp[hz]
   exact h a (mem a ha) b<|mem b hb) h2
  refine⟨s',?_,h4⟩;show bd (T9 (fun a b=>c (a,b)) x s) _=_;rw[h1];exact h3
def Kc{l l' r:ard α}(h:gU l c=some r)(hp:l'.Perm l):gU l' c=some r:=by
 obtain⟨h1,h2,h3,h4⟩:=vM h;have mem:∀x∈l',x∈r:=fun x hx=>h1.mem_iff.2<|hp.mem_iff.1 hx
 have key:∀x∈l',∀y∈l',∃v,c (x,y)=some v/\(v<0↔r.idxOf x<r.idxOf y):=fun x hx y hy=>by
  obtain⟨v,hv⟩:=h3 x (hp.mem_iff.1 hx) y<|hp.mem_iff.1 hy
  exact⟨v,hv,HE h2 (mem x hx) (mem y hy) hv⟩
 obtain⟨s',k1,k2⟩:=IH (c:=c) (rk:=fun x=>r.idxOf x) (l:=l') (s:=[]) (by simpa using key) List.Pairwise.nil;have k1:VV (fun a b=>c (a,b)) l'=some s':=k1;have e:s'=r:=PN h2 ((Kx k1).trans<|hp.trans h1.symm) k2;subst e;unfold gU;rw[k1];show yW _ s'=_;have g1:Nat.blt l'.length 4611686018427387904=true:=by rw[hp.length_eq];exact nE h4
 have g2:totB c l'=true:=db.2 fun x hx=>db.2 fun y hy=>by
  obtain⟨v,hv,_⟩:=key x hx y hy;rw[hv];rfl
 rw[g1,g2,h2];rfl
end
section
variable{r:_}
def yV{s1:(ard<|(ate×ate)×(V3×V3))×(ard<|(ate×ate)×(ard<|Rat×Rat))×Int}(hm:Fa (fun(yS:(ate×ate)×(V3×V3)) (Xa:(ard<|V3×V3))=>
 gC (((mix yS.1 s1.2.1).isNone|| !(List.isEmpty<|iC s1.2.1 yS.1 [])))<|
 bd (j6<|iC s1.2.1 yS.1 []) fun PC=>
 lp 18446744073709551616 (fun(k87:((ard<|V3×V3)×Int)->atg _) (Pg:(ard<|V3×V3)×Int)=>
 cond (decide<|Pg.2<(PC.length:Int)) (
 bd (bm PC Pg.2) fun Ja=>
 bd (dJ yS.2.1 Ja.1) fun WL=>
 bd (dC yS.2.2 WL) fun WK=>
 bd (dJ yS.2.1 Ja.2) fun UO=>
 bd (dC yS.2.2 UO) fun x97=>
 bd (fe 384 Pg.1 ([(WK,x97)]:ard (V3×V3))) fun U6=>
 bd (aF<|Pg.2+(1:Int)) fun KK=>
 k87 (U6,KK)
 ) (
 some Pg.1
 )
 ) (Xa,(0:Int))
 ) s1.1 [] (fun(Xa:(ard<|V3×V3))=>
 bd (gU Xa<|fun x=>ku x.1 x.2) fun KJ=>
 some KJ)=some r):∀π,π.Perm s1.1->Fa (fun(yS:(ate×ate)×(V3×V3)) (Xa:(ard<|V3×V3))=>
    gC (((mix yS.1 s1.2.1).isNone|| !(List.isEmpty<|iC s1.2.1 yS.1 [])))<|
    bd (j6<|iC s1.2.1 yS.1 []) fun PC=>
    lp 18446744073709551616 (fun(k87:((ard<|V3×V3)×Int)->atg _) (Pg:(ard<|V3×V3)×Int)=>
     cond (decide<|Pg.2<(PC.length:Int)) (
      bd (bm PC Pg.2) fun Ja=>
      bd (dJ yS.2.1 Ja.1) fun WL=>
      bd (dC yS.2.2 WL) fun WK=>
      bd (dJ yS.2.1 Ja.2) fun UO=>
      bd (dC yS.2.2 UO) fun x97=>
      bd (fe 384 Pg.1 ([(WK,x97)]:ard (V3×V3))) fun U6=>
      bd (aF<|Pg.2+(1:Int)) fun KK=>
      k87 (U6,KK)
     ) (
      some Pg.1
     )
    ) (Xa,(0:Int))
   ) π [] (fun(Xa:(ard<|V3×V3))=>
    bd (gU Xa<|fun x=>ku x.1 x.2) fun KJ=>
    some KJ)=some r:=by
 intro π hπ;obtain⟨s,hs,hr⟩:=pH hm;obtain⟨s',oV,hp⟩:=OD (b:=384) (by
  intro x
  repeat' (first|exact Acc.some|(refine Acc.lp (fun k hk i=>?_) _ _;dsimp only)|refine Acc.app rfl ?_|refine Acc.gc ?_|refine Acc.ac8 (fun _=>rfl) ?_ ?_|(refine Acc.bdc<|fun x=>?_)|exact hk _|fail)) hs hπ
 unfold Fa;rw[oV];obtain⟨y,hy,hr⟩:=pH hr;show bd (gU s' _) _=_;rw[Kc hy hp];exact hr
def By{a0:(ard<|((adx×adx)×(adx×adx))×((Rat×Rat)×(Rat×Rat)))×(ard<|((adx×adx)×(adx×adx))×(ard<|Rat×Rat))×(ard<|((adx×adx)×(adx×adx))×(ard<|Rat×Rat))}(hm:Fa (fun(x2:((adx×adx)×(adx×adx))×((Rat×Rat)×(Rat×Rat))) (s1:(ard<|(Rat×Rat)×(Rat×Rat)×Bool))=>
 gC (((mix x2.1 a0.2.1).isNone|| !(List.isEmpty<|iC a0.2.1 x2.1 [])))<|
 bd (j6<|iC a0.2.1 x2.1 []) fun x5=>
 lp 18446744073709551616 (fun(k8:((ard<|(Rat×Rat)×(Rat×Rat)×Bool)×Int)->atg _) (s7:(ard<|(Rat×Rat)×(Rat×Rat)×Bool)×Int)=>
 cond (decide<|s7.2<(x5.length:Int)) (
 bd (bm x5 s7.2) fun dz=>
 bd (eQ x2.2 dz.1) fun fp=>
 bd (eQ x2.2 dz.2) fun gp=>
 bd (fe 264 s7.1 ([(fp,gp,false)]:ard ((Rat×Rat)×(Rat×Rat)×Bool))) fun gS=>
 bd (aF<|s7.2+(1:Int)) fun iZ=>
 k8 (gS,iZ)
 ) (
 gC (((mix x2.1 a0.2.2).isNone|| !(List.isEmpty<|iC a0.2.2 x2.1 [])))<|
 bd (j6<|iC a0.2.2 x2.1 []) fun kQ=>
 bd (tq kQ x5) fun kP=>
 lp 18446744073709551616 (fun(NO:((ard<|(Rat×Rat)×(Rat×Rat)×Bool)×Int)->atg _) (qn:(ard<|(Rat×Rat)×(Rat×Rat)×Bool)×Int)=>
 cond (decide<|qn.2<(kP.length:Int)) (
 bd (bm kP qn.2) fun oY=>
 bd (eQ x2.2 oY.1) fun qE=>
 bd (eQ x2.2 oY.2) fun qf=>
 bd (fe 264 qn.1 ([(qE,qf,true)]:ard ((Rat×Rat)×(Rat×Rat)×Bool))) fun yX=>
 bd (aF<|qn.2+(1:Int)) fun uj=>
 NO (yX,uj)
 ) (
 some qn.1
 )
 ) (s7.1,(0:Int))
 )
 ) (s1,(0:Int))
 ) a0.1 [] (fun(s1:(ard<|(Rat×Rat)×(Rat×Rat)×Bool))=>
 bd (gU s1<|fun x=>kN x.1 x.2) fun Fm=>
 some Fm)=some r):∀π,π.Perm a0.1->Fa (fun(x2:((adx×adx)×(adx×adx))×((Rat×Rat)×(Rat×Rat))) (s1:(ard<|(Rat×Rat)×(Rat×Rat)×Bool))=>
  gC (((mix x2.1 a0.2.1).isNone|| !(List.isEmpty<|iC a0.2.1 x2.1 [])))<|
  bd (j6<|iC a0.2.1 x2.1 []) fun x5=>
  lp 18446744073709551616 (fun(k8:((ard<|(Rat×Rat)×(Rat×Rat)×Bool)×Int)->atg _) (s7:(ard<|(Rat×Rat)×(Rat×Rat)×Bool)×Int)=>
   cond (decide<|s7.2<(x5.length:Int)) (
    bd (bm x5 s7.2) fun dz=>
    bd (eQ x2.2 dz.1) fun fp=>
    bd (eQ x2.2 dz.2) fun gp=>
    bd (fe 264 s7.1 ([(fp,gp,false)]:ard ((Rat×Rat)×(Rat×Rat)×Bool))) fun gS=>
    bd (aF<|s7.2+(1:Int)) fun iZ=>
    k8 (gS,iZ)
   ) (
    gC (((mix x2.1 a0.2.2).isNone|| !(List.isEmpty<|iC a0.2.2 x2.1 [])))<|
    bd (j6<|iC a0.2.2 x2.1 []) fun kQ=>
    bd (tq kQ x5) fun kP=>
    lp 18446744073709551616 (fun(NO:((ard<|(Rat×Rat)×(Rat×Rat)×Bool)×Int)->atg _) (qn:(ard<|(Rat×Rat)×(Rat×Rat)×Bool)×Int)=>
     cond (decide<|qn.2<(kP.length:Int)) (
      bd (bm kP qn.2) fun oY=>
      bd (eQ x2.2 oY.1) fun qE=>
      bd (eQ x2.2 oY.2) fun qf=>
      bd (fe 264 qn.1 ([(qE,qf,true)]:ard ((Rat×Rat)×(Rat×Rat)×Bool))) fun yX=>
      bd (aF<|qn.2+(1:Int)) fun uj=>
      NO (yX,uj)
     ) (
      some qn.1
     )
    ) (s7.1,(0:Int))
   )
  ) (s1,(0:Int))
 ) π [] (fun(s1:(ard<|(Rat×Rat)×(Rat×Rat)×Bool))=>
  bd (gU s1<|fun x=>kN x.1 x.2) fun Fm=>
  some Fm)=some r:=by
 intro π hπ;obtain⟨s,hs,hr⟩:=pH hm;obtain⟨s',oV,hp⟩:=OD (b:=264) (by
  intro x
  repeat' (first|exact Acc.some|(refine Acc.lp (fun k hk i=>?_) _ _;dsimp only)|refine Acc.app rfl ?_|refine Acc.gc ?_|refine Acc.ac8 (fun _=>rfl) ?_ ?_|(refine Acc.bdc<|fun x=>?_)|exact hk _|fail)) hs hπ
 unfold Fa;rw[oV];obtain⟨y,hy,hr⟩:=pH hr;show bd (gU s' _) _=_;rw[Kc hy hp];exact hr
def Jv(x y:Rat):Bv x y=Bv y x:=by
 unfold Bv;rw[Rat.add_comm,Bool.and_comm]
def SS(u v:Rat×Rat×Rat):dC u v=dC v u:=by
 unfold dC;rw[Jv u.1 v.1,Jv u.2.1 v.2.1,Jv u.2.2 v.2.2]
def abc{α:Type}{a b:α}{s:ard α}(h:s.Perm [a,b]):s=[a,b]\/s=[b,a]:=by
 match s,h with
 |[x,y],h=>
  have hx:x∈[a,b]:=h.mem_iff.1 (by simp);simp only[bM,yD,or_false] at hx;rcases hx with rfl|rfl
  ·have:=(List.perm_cons _).1 h;have:=List.perm_singleton.1 this;simp at this;subst this;exact .inl rfl
  ·have h2:=List.perm_singleton.1 ((List.perm_cons _).1<|h.trans<|List.Perm.swap x a []);simp at h2;subst h2;exact .inr rfl
 |[],h=>have:=h.length_eq;simp at this
 |[_],h=>have:=h.length_eq;simp at this
 |_::_::_::_,h=>have:=h.length_eq;simp at this
def AW{s1:(ard<|ate×Int)×Bool×Int}(hm:Fa (fun(PE:ate×Int) (ug:(ard<|adx×adx×adx))=>
 cond (!decide (PE.2=(0:Int))) (
 bd (fe 48 ug ([PE.1]:ard ate)) fun PD=>
 some PD
 ) (
 some ug
 )
 ) s1.1 [] (fun(ug:(ard<|adx×adx×adx))=>
 cond (decide<|(ug.length:Int)=(0:Int)) (
 some (1:Int)
 ) (
 fR (gd (decide<|(ug.length:Int)=(2:Int)) true) (([],[],[])) (bm ug (0:Int)) fun x82=>
 fR (gd (decide<|(ug.length:Int)=(2:Int)) true) (([],[],[])) (bm ug (0:Int)) fun PC=>
 fR (gd (decide<|(ug.length:Int)=(2:Int)) true) ((0,0,0)) (eM PC) fun x86=>
 fR (gd (decide<|(ug.length:Int)=(2:Int)) true) (([],[],[])) (bm ug (1:Int)) fun x88=>
 fR (gd (decide<|(ug.length:Int)=(2:Int)) true) (([],[],[])) (bm ug (1:Int)) fun x90=>
 fR (gd (decide<|(ug.length:Int)=(2:Int)) true) ((0,0,0)) (eM x90) fun x92=>
 fR (gd (decide<|(ug.length:Int)=(2:Int)) true) ((0,0,0)) (dC x86 x92) fun WJ=>
 fR (gd (decide<|(ug.length:Int)=(2:Int)) true) (false) (fu WJ) fun Yt=>
 cond (((decide<|(ug.length:Int)=(2:Int))&&Yt)) (
 some (2:Int)
 ) (
 some (3:Int)
 )
 ))=some r):∀π,π.Perm s1.1->Fa (fun(PE:ate×Int) (ug:(ard<|adx×adx×adx))=>
     cond (!decide (PE.2=(0:Int))) (
      bd (fe 48 ug ([PE.1]:ard ate)) fun PD=>
      some PD
     ) (
      some ug
     )
    ) π [] (fun(ug:(ard<|adx×adx×adx))=>
     cond (decide<|(ug.length:Int)=(0:Int)) (
      some (1:Int)
     ) (
      fR (gd (decide<|(ug.length:Int)=(2:Int)) true) (([],[],[])) (bm ug (0:Int)) fun x82=>
      fR (gd (decide<|(ug.length:Int)=(2:Int)) true) (([],[],[])) (bm ug (0:Int)) fun PC=>
      fR (gd (decide<|(ug.length:Int)=(2:Int)) true) ((0,0,0)) (eM PC) fun x86=>
      fR (gd (decide<|(ug.length:Int)=(2:Int)) true) (([],[],[])) (bm ug (1:Int)) fun x88=>
      fR (gd (decide<|(ug.length:Int)=(2:Int)) true) (([],[],[])) (bm ug (1:Int)) fun x90=>
      fR (gd (decide<|(ug.length:Int)=(2:Int)) true) ((0,0,0)) (eM x90) fun x92=>
      fR (gd (decide<|(ug.length:Int)=(2:Int)) true) ((0,0,0)) (dC x86 x92) fun WJ=>
      fR (gd (decide<|(ug.length:Int)=(2:Int)) true) (false) (fu WJ) fun Yt=>
      cond (((decide<|(ug.length:Int)=(2:Int))&&Yt)) (
       some (2:Int)
      ) (
       some (3:Int)
      )
     ))=some r:=by
 intro π hπ;obtain⟨s,hs,hr⟩:=pH hm;obtain⟨s',oV,hp⟩:=OD (b:=48) (by
  intro x
  repeat' (first|exact Acc.some|refine Acc.app rfl ?_|refine Acc.ac8 (fun _=>rfl) ?_ ?_|fail)) hs hπ
 unfold Fa;rw[oV];have hl:=hp.length_eq;by_cases h2:s.length=2
 ·match s,h2,hp,hr with
  |[a,b],_,hp,hr=>
   rcases abc hp with rfl|rfl
   ·exact hr
   ·have e2:∀u v:adx×adx×adx,decide ((([u,v].length:Nat):Int)=(2:Int))=true:=fun _ _=>rfl
    have e0:∀u v:adx×adx×adx,decide ((([u,v].length:Nat):Int)=(0:Int))=false:=fun _ _=>rfl
    have i0:∀u v:adx×adx×adx,bm [u,v] (0:Int)=some u:=fun _ _=>rfl
    have i1:∀u v:adx×adx×adx,bm [u,v] (1:Int)=some v:=fun _ _=>rfl
    have bs:∀{α ρ:Type} (x:α) (K:α->atg ρ),bd (some x) K=K x:=fun _ _=>rfl
    simp only[e2,e0,i0,i1,bs,gd,fR,fU,pq] at hr⊢;obtain⟨x,hx,hr⟩:=pH hr;obtain⟨y,hy,hr⟩:=pH hr;rw[hy,bs,hx,bs,SS];exact hr
 ·have d2:decide ((s.length:Int)=(2:Int))=false:=cr (by omega);have d3:decide ((s'.length:Int)=(2:Int))=false:=cr (by omega);simp only[d2,gd,fR,EA,fU] at hr;simp only[bd];simp only[hl,d2,gd,fR,EA,fU];exact hr
end
end Trn
namespace Sk
section
open Go.Shelf Go.Lib
def OR(m n:Nat)(h:n<=m):(⟨(List.replicate m (48:UInt8)).toArray⟩:ByteArray).extract 0 n=⟨(List.replicate n 48).toArray⟩:=by
 apply ByteArray.ext;rw[ByteArray.data_extract];apply Array.ext';simp[List.take_replicate,Nat.min_eq_left h]
set_option maxHeartbeats 4000000 in
set_option maxRecDepth 1000000 in
def ani(n:Nat)(h2:2<=n)(h:n<=64)(w:World):
  Calls prog 256 #[.string ⟨#[48]⟩,.int .i64 n] w fun e w'=>e= .returned (.string ⟨(List.replicate n 48).toArray⟩)/\∃k,w'=w.drewN k:=by
 have e317:∀args w,(callFunc 317 args).run prog w= .ok (.enter 317 args) w:=enters_of func317 (by kernel_rfl) rfl;have e232:∀args w,(callFunc 232 args).run prog w= .ok (.enter 232 args) w:=enters_of func232 (by kernel_rfl) rfl;have hmul:=fun w=>bits_Mul 1 n (by omega) (by omega) w
 have hp:=fun s w=>strings_HasPrefix s ⟨#[48]⟩ w
 go_enter func256,ntmps256
 go_wp2_with (first|(go_at_fn (317);refine(hmul _).mono ?_;rintro e w' ⟨rfl,rfl⟩)|(go_at_fn (232);refine(hp _ _).mono ?_;rintro e w' ⟨rfl,rfl⟩))
 go_ret
 refine⟨?_,0,by simp[World.drewN_zero]⟩;have hm:n%18446744073709551616=n:=Nat.mod_eq_of_lt (by omega);show Ending.returned (Value.string<|ByteArray.extract _ 0<|n%18446744073709551616)=_;rw[hm]
 congr 2
 exact OR 64 n h
end
end Sk
namespace Trn
section
open Go.Shelf
variable[D:DR]
variable{cur:ath apU}
theorem V2{k n:Nat}{ps qs xs:ard apU}{w:apT}{blk:Nat}{E:aq9}[Inhabited<|Fin n](hl:xs.length=n*k)(hb:w.heap[blk]? =some (.cells cur E (0,0)))(ht:cur.toList=ps++(xs++qs)):
  Go.Sort.HoldsK (fun i:Fin n=>chunk k xs i) k w blk ps.length (Array.ofFn fun i:Fin n=>i):=by
 unfold Go.Sort.HoldsK Go.Sort.Holds;intro j hj;rw[Go.Sort.size_flatK,BX] at hj;have Gp:cur[ps.length+j]? =xs[j]? :=by
  rw[<-uR,ht,Aq (by omega),Nat.add_sub_cancel_left,wL (by omega)]
 have hk:0<k:=(wH k).elim (fun e=>by subst e;simp at hj) id;have hi:j/k<n:=Nat.div_lt_of_lt_mul (by rw[oI];exact hj);refine⟨?_,by simp[World.frozen?,hb]⟩;rw[Go.Sort.get_flatK _ _ _ _ (by simpa using hj)];rw[Iu hb,Gp];have e1:(Array.ofFn fun i:Fin n=>i)[j/k]! =⟨j/k,hi⟩:=by rw[oq (Array.ofFn fun i:Fin n=>i) (j/k) (by simpa using hi)];simp
 rw[e1];have hg:=Qt hl hj;have hlt:j%k<(chunk k xs<|j/k).length:=by rw[qd hl hi];exact tF _ hk
 show xs[j]? =some (id (chunk k xs<|j/k)[j%k]!);rw[<-hg,oq (chunk k xs<|j/k) (j%k) hlt,kb hlt];rfl
theorem Fg{α:Type}[Inhabited α]{enc:α->ard apU}{k:Nat}{w:apT}{blk off m:Nat}{dk:ath α}{os:ath Obj}{E:aq9}{fr:Nat×Nat}(hb:w.heap[blk]? =some (.cells cur E fr)):
  (sortWorldK enc k w blk off m dk os).heap[blk]? =some (.cells (Go.Sort.putCells id off (Go.Sort.flatK enc k dk) cur) E fr):=by
 unfold sortWorldK Go.Sort.grow Go.Sort.putRowK Go.Sort.putRow Go.Sort.mapBlock Go.Sort.ahead;simp only[L2,Array.size_modify,lt_of_heap hb,if_pos,B8,hb,xB]
 rfl
theorem Ra{ps xs qs:ard apU}{d:ath apU}(h:cur.toList=ps++(xs++qs))(hd:d.size=xs.length):(Go.Sort.putCells id ps.length d cur).toList=ps++(d.toList++qs):=by
 have hs:cur.size=ps.length+(xs.length+qs.length):=by rw[<-gi,h];simp
 apply Ix;intro i;rw[uR];unfold Go.Sort.putCells;rw[Array.getElem?_mapIdx,<-uR,h];rcases jI i ps.length with h1|h1
 ·rw[wL h1,wL h1];cases ps[i]? with
  |none=>rfl
  |some v=>simp;omega
 ·rw[Aq h1,Aq h1];rcases jI (i-ps.length) xs.length with h2|h2
  ·rw[wL h2,wL (by simpa[hd] using h2),kb h2,xB,if_pos ⟨h1,by omega⟩,uR,EI (by omega),oq d _ (by omega)];rfl
  ·have e3:d.toList.length=xs.length:=by rw[<-hd];exact gi
   rw[Aq h2,Aq (by rw[e3];exact h2),e3];cases qs[i-ps.length-xs.length]? with
   |none=>rfl
   |some v=>simp;omega
end
section
open Go.Shelf
variable[D:DR]
variable{P:Program}{ρ:Ren}{A:Type}[DecidableEq A]{τ:A->Ty}{k:Nat}{c:A×A->Option Int}
set_option maxHeartbeats 1000000 in
theorem Vi(L:SlLaysF0.n6 P ρ)(aE:∀w,(isAgg<|ρ.t 24).run P w= .ok true w)(zE:∀w,(Go.sizeOf<|ρ.t 24).run P w= .ok k w)(hc:dY P (ρ.f 6)=true)
  (hn:∀a,(τ a).n=k)(ha:∀a,(τ a).agg=true)(none:∀(p:atg Addr) (cap:Nat) (fv:apU) (w:apT),Calls P (ρ.f 6) #[.slice p 0 cap,fv] w fun e w'=>e= .returned (.tuple #[])/\w'=w)
  {l r:ard A}(hm:gU l c=some r){ps qs:ard apU}:
  fF P (ρ.f 6) [] (.od (ρ.t 24) ps qs<|lT τ l) (.od (ρ.t 24) ps qs<|lT τ r) [Fj P (fun x:A×A=>[τ x.1,τ x.2]) (fun x:Int=>[(TI .i64) x]) c] []:=by
 obtain⟨h1,h2,h3,h4⟩:=vM hm;have hrl:r.length=l.length:=h1.length_eq;refine⟨hc,fun w H v pv qv sub gl hp hq hs=>?_⟩;have hp:=xo hp;subst hp;obtain⟨fv,rfl,hfv⟩:=sZ hq;obtain⟨g,cap,oT,rfl,IK,hf⟩:=hfv;obtain⟨blk,kI,cur,xs,rfl,hblk,Gp,gq,hB,Qm⟩:=hs;have hlen:(lT τ l).length=l.length:=fW ..;have NX:(lT τ r).length=l.length:=by rw[fW,hrl]
 rw[hlen];have AN:∀b,Value.ownBlock (.slice (some ⟨blk,ps.length,.none⟩) l.length kI)=some b->H b= .none:=fun b hb=>by cases hb;exact hB
 by_cases hl0:l=[]
 ·subst hl0;have hr:r=[]:=List.Perm.eq_nil h1;subst hr;refine(none _ kI _ w).mono ?_;rintro e w' ⟨rfl,rfl⟩;exact⟨_,rfl,H,(Tr.refl _ _).AN sub AN,⟨blk,kI,cur,xs,rfl,hblk,Gp,gq,hB,Qm⟩,fun b hb=> .inl hb,#[],rfl,rfl⟩
 ·have hpos:0<l.length:=B5.2 hl0
  haveI:Inhabited (Fin l.length):=⟨⟨0,hpos⟩⟩
  obtain⟨FT,R0⟩:=pc hn ha gq
  let cf:Fin l.length->Fin l.length->Int:=fun i j=>(c (l[i],l[j])).getD 0
  have tot:∀i j:Fin l.length,c (l[i],l[j])=some (cf i j):=fun i j=>by
   obtain⟨v,hv⟩:=h3 _ (qz i.2) _<|qz j.2
   have hv:c (l[i],l[j])=some v:=hv;show c (l[i],l[j])=some ((c (l[i],l[j])).getD 0);rw[hv];rfl
  have Wb:=al.can (D:=DR.strict)<|hf _ _<|tot ⟨0,hpos⟩ ⟨0,hpos⟩
  have hcmp:=Ot (P:=P) (off:=ps.length) hn ha gq sub gl hB IK hf cf tot;have hd:(Array.ofFn fun i:Fin l.length=>i).size=l.length:=BX;have main:=AnyQ.slices_SortFunc L k aE zE (fun i:Fin l.length=>chunk k xs i) (fun i=>qd FT i.2)
   (fun i u hu=>vT gq u<|yG<|tC hu) cf (S4 hm tot) g cap blk ps.length kI (Array.ofFn fun i:Fin l.length=>i) w
   (fun args w=>jo Wb args w) (by rw[hd];exact hcmp) (V2 FT hblk Gp) (lt_of_heap hblk) (by rw[hd];exact h4)
  rw[hd] at main;refine main.mono ?_;rintro e w' ⟨rfl,d',m,os,Qk,ab5,rfl⟩;obtain⟨hdz,XT⟩:=PO hm tot Qk ab5;have Sw:(Go.Sort.flatK (fun i:Fin l.length=>chunk k xs i) k d').size=l.length*k:=by rw[Go.Sort.size_flatK,hdz]
  refine⟨_,rfl,H,Tr.AN (M:=fun b=>Value.ownBlock (.slice (some ⟨blk,ps.length,.none⟩) l.length kI)=some b) ⟨wo,rfl,rfl,rfl,?_,fun i hi hne=>nQ hi (fun e=>hne (by rw[e];rfl))⟩ sub AN,
   ⟨blk,kI,_,(Go.Sort.flatK (fun i:Fin l.length=>chunk k xs i) k d').toList,by rw[NX],Fg hblk,Ra Gp (by rw[Sw,FT]),?_,hB,Qm⟩,fun b hb=> .inl hb,#[],rfl,rfl⟩
  ·refine GN.of ?_;show w.drawn<=(sortWorldK _ k w blk _ m d' os).drawn;unfold sortWorldK Go.Sort.grow Go.Sort.putRowK Go.Sort.putRow Go.Sort.mapBlock Go.Sort.ahead;exact B2 _ _
  ·refine vi (by rw[gi,Sw,hrl]) fun i hi=>?_
   have XQ:i<d'.size:=by omega
   rw[Gx (fun i=>qd FT i.2) XQ];rw[oq d' i XQ];have e:r[i]=l[d'[i]]:=by
    have:r[i]? =(d'.toList.map fun i=>l[i])[i]? :=by rw[XT]
    rw[kb hi,mH,uR,EI XQ] at this;simpa using this
   rw[e];exact R0 _ d'[i].2
end
section
variable[D:DR]
variable{l r:ard (Rat×Rat)}
theorem Td{l r:ard Rat}{c:Rat×Rat->atg Int}(hm:gU l c=some r):fF prog 79 [] (.buf 87 4<|lT aX l) (.buf 87 4<|lT aX r) [(Fj prog (fun(x:Rat×Rat)=>[aX x.1,aX x.2])<|fun(x:Int)=>[(TI .i64) x]) c] []:=
 uu (ρ:=Nb) aaR (k:=4) isAgg87 sizeOf87 (by kernel_rfl) (fun _=>rfl) (fun _=>rfl) (AnyF.slices_SortFunc_none aaR) hm
theorem Y1{l r:ard (V3×V3)}{c:(V3×V3)×(V3×V3)->atg Int}(hm:gU l c=some r):fF prog 129 [] (.buf 128 24<|lT bT l) (.buf 128 24<|lT bT r) [(Fj prog (fun(x:(V3×V3)×(V3×V3))=>[bT x.1,bT x.2])<|fun(x:Int)=>[(TI .i64) x]) c] []:=
 uu (ρ:=Kh) W7 (k:=24) isAgg128 sizeOf128 (by kernel_rfl) (fun _=>rfl) (fun _=>rfl) (AnyF.slices_SortFunc_none W7) hm
theorem Y0{c:(Rat×Rat)×(Rat×Rat)->atg Int}(hm:gU l c=some r):fF prog 144 [] (.buf 89 8<|lT aR l) (.buf 89 8<|lT aR r) [(Fj prog (fun(x:(Rat×Rat)×(Rat×Rat))=>[aR x.1,aR x.2])<|fun(x:Int)=>[(TI .i64) x]) c] []:=
 uu (ρ:=Kg) W6 (k:=8) isAgg89 sizeOf89 (by kernel_rfl) (fun _=>rfl) (fun _=>rfl) (AnyF.slices_SortFunc_none W6) hm
theorem YZ{l r:ard ((Rat×Rat)×(Rat×Rat)×Bool)}{c:((Rat×Rat)×(Rat×Rat)×Bool)×((Rat×Rat)×(Rat×Rat)×Bool)->atg Int}(hm:gU l c=some r):fF prog 196 [] (.buf 188 17<|lT gJ l) (.buf 188 17<|lT gJ r) [(Fj prog (fun(x:((Rat×Rat)×(Rat×Rat)×Bool)×((Rat×Rat)×(Rat×Rat)×Bool))=>[gJ x.1,gJ x.2])<|fun(x:Int)=>[(TI .i64) x]) c] []:=
 uu (ρ:=Kf) W5 (k:=17) isAgg188 sizeOf188 (by kernel_rfl) (fun _=>rfl) (fun _=>rfl) (AnyF.slices_SortFunc_none W5) hm
theorem YY{c:(Rat×Rat)×(Rat×Rat)->atg Int}(hm:gU l c=some r):fF prog 204 [] (.buf 226 8<|lT aS l) (.buf 226 8<|lT aS r) [(Fj prog (fun(x:(Rat×Rat)×(Rat×Rat))=>[aS x.1,aS x.2])<|fun(x:Int)=>[(TI .i64) x]) c] []:=
 uu (ρ:=Ke) W0 (k:=8) isAgg226 sizeOf226 (by kernel_rfl) (fun _=>rfl) (fun _=>rfl) (AnyF.slices_SortFunc_none W0) hm
theorem YX{l r:ard ((V3×Rat)×(ard<|Rat×Rat×Rat))}{c:((V3×Rat)×(ard<|Rat×Rat×Rat))×((V3×Rat)×(ard<|Rat×Rat×Rat))->atg Int}(hm:gU l c=some r):fF prog 286 [] (.buf 237 17<|lT aK l) (.buf 237 17<|lT aK r) [(Fj prog (fun(x:((V3×Rat)×(ard<|Rat×Rat×Rat))×((V3×Rat)×(ard<|Rat×Rat×Rat)))=>[aK x.1,aK x.2])<|fun(x:Int)=>[(TI .i64) x]) c] []:=
 uu (ρ:=Kd) WZ (k:=17) isAgg237 sizeOf237 (by kernel_rfl) (fun _=>rfl) (fun _=>rfl) (AnyF.slices_SortFunc_none WZ) hm
theorem YW{l r:ard V3}{c:V3×V3->atg Int}(hm:gU l c=some r):fF prog 376 [] (.buf 91 12<|lT ar l) (.buf 91 12<|lT ar r) [(Fj prog (fun(x:V3×V3)=>[ar x.1,ar x.2])<|fun(x:Int)=>[(TI .i64) x]) c] []:=
 uu (ρ:=Dl) Lr (k:=12) isAgg91 sizeOf91 (by kernel_rfl) (fun _=>rfl) (fun _=>rfl) (AnyF.slices_SortFunc_none Lr) hm
theorem Q5(hm:Js l=some r):fF prog 151 [] (.buf 89 8<|lT aR l) (.buf 89 8<|lT aR r) [] []:=
 aa2 (ρ:=Nl) aht (k:=8) isAgg89 sizeOf89 (by kernel_rfl) (fun _=>rfl) (fun _=>rfl) hm
theorem Vo{l r:ard V3}{c:V3×V3->atg Int}(hm:gU l c=some r){ps qs:ard apU}:fF prog 376 [] (.od 91 ps qs<|lT ar l) (.od 91 ps qs<|lT ar r) [(Fj prog (fun(x:V3×V3)=>[ar x.1,ar x.2])<|fun(x:Int)=>[(TI .i64) x]) c] []:=
 Vi (ρ:=Dl) Lr (k:=12) isAgg91 sizeOf91 (by kernel_rfl) (fun _=>rfl) (fun _=>rfl) (AnyF.slices_SortFunc_none Lr) hm
theorem Q6{l r:ard Rat}{c:Rat×Rat->atg Bool}(hm:jZ l c=some r):zN prog 82 87 4 (lT aX l) [(Fj prog (fun(x:Rat×Rat)=>[aX x.1,aX x.2])<|fun(x:Bool)=>[aY x]) c] (lT aX r):=
 Ck (k:=4) (by kernel_rfl) (fun _=>rfl) (fun _=>rfl) Sk.Z6
  (Sk.Z5 func82 mixed rfl underlying3 isAgg3 sizeOf3 zeroValue3 underlying4 isAgg4 sizeOf4 underlying144 isAgg144 sizeOf144 isAgg87 sizeOf87 _ zeroValue87 (by rfl) (by decide)) hm
theorem Kk{l r:ard Rat}{c:Rat×Rat->atg Bool}(hm:jZ l c=some r):EZ prog 82 87 4 (lT aX l) [(Fj prog (fun(x:Rat×Rat)=>[aX x.1,aX x.2])<|fun(x:Bool)=>[aY x]) c] [(TL aX) r]:=(Q6 hm).pub
theorem Pf{c:(Rat×Rat)×(Rat×Rat)->atg Bool}(hm:jZ l c=some r):zN prog 146 89 8 (lT aR l) [(Fj prog (fun(x:(Rat×Rat)×(Rat×Rat))=>[aR x.1,aR x.2])<|fun(x:Bool)=>[aY x]) c] (lT aR r):=
 Ck (k:=8) (by kernel_rfl) (fun _=>rfl) (fun _=>rfl) Sk.Wr
  (Sk.Wp func146 mixed rfl underlying3 isAgg3 sizeOf3 zeroValue3 underlying4 isAgg4 sizeOf4 underlying136 isAgg136 sizeOf136 isAgg89 sizeOf89 _ zeroValue89 (by rfl) (by decide)) hm
theorem Q7{c:(Rat×Rat)×(Rat×Rat)->atg Bool}(hm:jZ l c=some r):EZ prog 146 89 8 (lT aR l) [(Fj prog (fun(x:(Rat×Rat)×(Rat×Rat))=>[aR x.1,aR x.2])<|fun(x:Bool)=>[aY x]) c] [(TL aR) r]:=(Pf hm).pub
theorem Pe{l r:ard V3}{c:V3×V3->atg Bool}(hm:jZ l c=some r):zN prog 333 91 12 (lT ar l) [(Fj prog (fun(x:V3×V3)=>[ar x.1,ar x.2])<|fun(x:Bool)=>[aY x]) c] (lT ar r):=
 Ck (k:=12) (by kernel_rfl) (fun _=>rfl) (fun _=>rfl) Sk.Wq
  (Sk.Wo func333 mixed rfl underlying3 isAgg3 sizeOf3 zeroValue3 underlying4 isAgg4 sizeOf4 underlying137 isAgg137 sizeOf137 isAgg91 sizeOf91 _ zeroValue91 (by rfl) (by decide)) hm
end
section
variable{α ρ σ:Type}{r:ρ}
def tS(x:α)(K:α->atg ρ):bd (some x) K=K x:=rfl
def akl(d:α)(e:atg α)(K:α->atg ρ):fR true d e K=bd e K:=rfl
def ahG(d:α)(e:atg α)(K:α->atg ρ):fR false d e K=K d:=rfl
def akB(K:α->atg ρ)(E:(α->atg ρ)->atg ρ):jn K E=E K:=rfl
def al4(b:Bool):gd b true=b:=by cases b<;>rfl
def ZY{n:Nat}(h:n<=9223372036854775807):aF (n:Int)=some (n:Int):=by
 unfold aF A6;rw[bD (show(-9223372036854775808:Int)<=(n:Int) by omega),bD (show(n:Int)<=9223372036854775807 by omega)];rfl
def abD{σ ρ α:Type}(L:ard α)(Bd:(σ->atg ρ)->α->σ->atg ρ)(K:σ->atg ρ)(B:((σ×Int)->atg ρ)->σ×Int->atg ρ)(o:Nat)
  (XH:∀k u (i:Nat) x,L[i]? =some x->B k (u,((i+o:Nat):Int))=Bd (fun u'=>k (u',((i+1+o:Nat):Int))) x u)
  (hend:∀k u,B k (u,((L.length+o:Nat):Int))=K u):
  ∀(F i:Nat) (u:σ),i<=L.length->L.length-i<F->lp F B (u,((i+o:Nat):Int))=Kw (L.drop i) Bd u K
 |0,i,u,_,h=>by omega
 |F+1,i,u,hi,hF=>by
  show B (lp F B) (u,_)=_;rcases jI i L.length with h|h
  ·rw[BQ h];show _=Bd (fun s=>Kw (L.drop<|i+1) Bd s K) L[i] u;rw[XH _ _ i L[i]<|kb h]
   congr 1
   funext u'
   exact abD L Bd K B o XH hend F (i+1) u' (by omega) (by omega)
  ·have:i=L.length:=by omega
   subst this;rw[hend,xC];rfl
def LH(L:ard α)(Bd:(σ->atg ρ)->α->σ->atg ρ)(K:σ->atg ρ)(o:Nat){B:((σ×Int)->atg ρ)->σ×Int->atg ρ}{z:Int}{F:Nat}{u:σ}(hz:z=(o:Int))(hF:L.length<F)(hm:Kw L Bd u K=some r)
 (XH:∀k u (i:Nat) x,L[i]? =some x->B k (u,((i+o:Nat):Int))=Bd (fun u'=>k (u',((i+1+o:Nat):Int))) x u)
 (hend:∀k u,B k (u,((L.length+o:Nat):Int))=K u):lp F B (u,z)=some r:=by
 have h:=abD L Bd K B o XH hend F 0 u (jc _) hF;rw[vy] at h;rw[hz,h];exact hm
def IN{b:Bool}{x r:α}(h:yW b x=some r):b=true/\x=r:=by
 unfold yW at h;cases b
 ·cases h
 ·exact⟨rfl,fj h⟩
def VT(l:ard α)(i:Nat):bm l (i:Int)=l[i]? :=rfl
def M9{c0:ard V3}{L:ard (V3)}(ho:Ej c0=some L)(Bd:(σ->atg ρ)->V3->σ->atg ρ)(K:σ->atg ρ)(u:σ)(hm:Kw L Bd u K=some r):jb c0 Bd K u=some r:=by
 obtain⟨hb,rfl⟩:=IN ho;have hb:c0.length<4000000000:=gj hb;unfold jb;refine LH c0 Bd K 0 rfl (by omega) hm ?_ ?_
 ·intro k u i x hx;have hi:i<c0.length:=(iG.1 hx).1;dsimp only;rw[bD (show((i+0:Nat):Int)<(c0.length:Int) by omega)];rw[fT,VT,tG,hx,tS];refine congrArg (fun f=>Bd f x u)<|funext fun u'=>?_
  rw[show(((i:Nat):Int)+1)=((i+1+0:Nat):Int) from by omega,ZY (by omega),tS]
 ·intro k u;dsimp only;rw[cr (by omega)];rfl
def Q2{c0:V3×V3×V3×V3}{L:ard (V3)}(ho:Lp c0=some L)(Bd:(σ->atg ρ)->V3->σ->atg ρ)(K:σ->atg ρ)(u:σ)(hm:Kw L Bd u K=some r):yh c0 Bd K u=some r:=by
 cases ho;unfold yh;refine LH [c0.2.1,c0.2.2.1,c0.2.2.2] Bd K 0 rfl (by simp only[List.length_cons,BY];omega) hm ?_ ?_
 ·intro k u i x hx;have hi:i<3:=(iG.1 hx).1;dsimp only;rw[bD (show((i+0:Nat):Int)<3 by omega)];rw[fT,VT,tG,hx,tS];refine congrArg (fun f=>Bd f x u)<|funext fun u'=>?_
  rw[show(((i:Nat):Int)+1)=((i+1+0:Nat):Int) from by omega,ZY (by omega),tS]
 ·intro k u
  rfl
def abg{l:ard α}{i:Nat}{x:α×α}(h:(Bx l)[i]? =some x):l[i]? =some x.1/\l[(i+1)%l.length]? =some x.2/\i<l.length:=by
 cases l with
 |nil=>simp[Bx] at h
 |cons a l=>
  unfold Bx at h;rw[L8] at h;obtain⟨h1,h2⟩:=h;have hi:i<(a::l).length:=(iG.1 h1).1;refine⟨h1,?_,hi⟩;simp only[List.length_cons] at hi⊢;rcases jI i l.length with h3|h3
  ·rw[zC (by omega),List.getElem?_cons_succ];rw[wL h3] at h2;exact h2
  ·have:i=l.length:=by omega
   subst this;rw[Nat.mod_self];rw[Aq<|bC _,Nat.sub_self] at h2;exact h2
def P0(l:ard α):(Bx l).length=l.length:=by
 cases l with
 |nil=>rfl
 |cons a l=>simp[Bx]
def Pb{c0:ard V3}{L:ard ((V3×V3))}(ho:Hp c0=some L)(Bd:(σ->atg ρ)->(V3×V3)->σ->atg ρ)(K:σ->atg ρ)(u:σ)(hm:Kw L Bd u K=some r):wA c0 Bd K u=some r:=by
 obtain⟨hb,rfl⟩:=IN ho;have hb:c0.length<1000000000:=gj hb;unfold wA;refine LH (Bx c0) Bd K 0 rfl (by rw[P0];omega) hm ?_ ?_
 ·intro k u i x hx;obtain⟨h1,h2,hi⟩:=abg hx;dsimp only;rw[bD (show((i+0:Nat):Int)<(c0.length:Int) by omega)];have ef:aF (((i:Nat):Int)+1)=some ((i+1+0:Nat):Int):=by
   rw[show(((i:Nat):Int)+1)=((i+1+0:Nat):Int) from by omega,ZY (by omega)]
  have er:sH ((i+1+0:Nat):Int) (c0.length:Int)=some (((i+1)%c0.length:Nat):Int):=by
   unfold sH;rw[cr (by omega),fU,Int.tmod_eq_emod_of_nonneg (by omega)];rfl
  rw[fT,VT,tG,h1,tS,ef,tS,er,tS,VT,h2,tS];refine congrArg (fun f=>Bd f (x.1,x.2) u)<|funext fun u'=>?_
  rw[tS]
 ·intro k u;dsimp only;rw[cr (by rw[P0];omega)];rfl
def D8{e:atg α}{K:α->atg ρ}(h:bd e K=some r):∃x,e=some x/\K x=some r:=by
 cases e with
 |none=>cases h
 |some x=>exact⟨x,rfl,h⟩
def aml{l m:ard Rat}(h:l.length+m.length<2000000000000):fe 64 l m=some (l++m):=by
 unfold fe;rw[bD (by omega),bD (by omega)];rfl
def Na{c0:Rat}{c1:Rat}{c2:ard Rat}{L:ard (Rat×Rat)}(ho:AP c0 c1 c2=some L)(Bd:(σ->atg ρ)->Rat×Rat->σ->atg ρ)(K:σ->atg ρ)(u:σ)(hm:Kw L Bd u K=some r):wE c0 c1 c2 Bd K u=some r:=by
 unfold AP at ho;obtain⟨_,hb,ho⟩:=D8 ho;have hb:c2.length<1000000000:=gj (IN hb).1;unfold wE
 suffices key:∀(F i:Nat) (s:ard Rat),i<=c2.length->c2.length-i<F->s.length<=i+2->
   Kw (c2.drop i) (fun next x s=>bd (oR x c0) fun k=>cond (decide<|0<k) (bd (oR x c1) fun j=>cond (decide<|j<0) (next<|s++[x])<|next s)<|next s) s (fun all=>
    bd (gU all<|fun p=>oR p.1 p.2) fun s=>bd (jZ s<|fun p=>Km p.1 p.2) fun c=>yW (Nat.blt c.length 4000000000)<|c.zip c.tail)=some L->
   lp F (fun(k2:(σ×ard Rat×Int)->atg _) (s1:σ×ard Rat×Int)=>
    cond (decide<|s1.2.2<(c2.length:Int)) (
     jn (fun(s4:σ×ard Rat)=>
      bd (aF<|s1.2.2+(1:Int)) fun kd=>
      k2 (s4.1,s4.2,kd)
     ) fun k5=>
     bd (bm c2 s1.2.2) fun x6=>
     bd (oR x6 c0) fun x8=>
     fR (gd (decide<|(0:Int)<x8) true) (0) (oR x6 c1) fun dz=>
     cond (((decide<|(0:Int)<x8)&&(decide<|dz<(0:Int)))) (
      bd (fe 64 s1.2.1 ([x6]:ard Rat)) fun iW=>
      k5 (s1.1,iW)
     ) (
      k5 (s1.1,s1.2.1)
     )
    ) (
     bd (gU s1.2.1<|fun x=>oR x.1 x.2) fun iP=>
     bd (jZ iP<|fun x=>Km x.1 x.2) fun ju=>
     lp 18446744073709551616 (fun(Sq:(σ×Int)->atg _) (xl:σ×Int)=>
      cond (decide<|xl.2<(ju.length:Int)) (
       bd (aF<|xl.2-(1:Int)) fun sE=>
       bd (bm ju sE) fun yY=>
       bd (bm ju xl.2) fun oY=>
       Bd (fun u=>
       bd (aF<|xl.2+(1:Int)) fun qE=>
       Sq (u,qE)
       ) (yY,oY) xl.1
      ) (
       K xl.1
      )
     ) (s1.1,(1:Int))
    )
   ) (u,s,(i:Int))=some r from
  key _ 0 [c0,c1] (jc _) (by omega) (by simp) ho
 intro F
 induction F with
 |zero=>intro i s _ h;omega
 |succ F ih=>
  intro i s hi hF hs ho;unfold lp;dsimp only;rcases jI i c2.length with h|h
  ·rw[bD (show(i:Int)<(c2.length:Int) by omega)];rw[BQ h] at ho;change(bd (oR c2[i] c0) fun k=>cond (decide<|0<k) (bd (oR c2[i] c1) fun j=>cond (decide<|j<0) (Kw (c2.drop<|i+1) _ (s++[c2[i]]) _)<|Kw (c2.drop<|i+1) _ s _)<|Kw (c2.drop<|i+1) _ s _)=some L at ho;obtain⟨k,hk,ho⟩:=D8 ho;have ef:aF (((i:Nat):Int)+1)=some ((i+1:Nat):Int):=by
    rw[show(((i:Nat):Int)+1)=((i+1:Nat):Int) from by omega,ZY (by omega)]
   rw[fT,akB];dsimp only;rw[VT,kb h,tS,hk,tS,al4];cases hc:decide ((0:Int)<k) with
   |false=>
    rw[hc,fU] at ho;rw[ahG,EA,fU,ef];exact ih (i+1) s (by omega) (by omega) (by omega) ho
   |true=>
    rw[hc,fT] at ho;obtain⟨j,hj,ho⟩:=D8 ho;rw[akl,hj,tS,pq];cases hd:decide (j<0) with
    |true=>
     rw[hd,fT] at ho;rw[fT,aml (by simp only[List.length_singleton];omega),tS,ef];exact ih (i+1) (s++[c2[i]]) (by omega) (by omega) (by rw[List.length_append,List.length_singleton];omega) ho
    |false=>
     rw[hd,fU] at ho;rw[fU,ef];exact ih (i+1) s (by omega) (by omega) (by omega) ho
  ·have hi':i=c2.length:=by omega
   subst hi';rw[cr (by omega)];rw[xC] at ho;change(bd (gU s<|fun p=>oR p.1 p.2) fun s=>bd (jZ s<|fun p=>Km p.1 p.2) fun c=>yW (Nat.blt c.length 4000000000)<|c.zip c.tail)=some L at ho;obtain⟨t,ht,ho⟩:=D8 ho;obtain⟨c,hc,ho⟩:=D8 ho;obtain⟨hb2,rfl⟩:=IN ho;have hb2:c.length<4000000000:=gj hb2;rw[fU,ht,tS,hc,tS];refine LH (c.zip c.tail) Bd K 1 rfl (by rw[List.length_zip,List.length_tail];omega) hm ?_ ?_
   ·intro k u i x hx;rw[L8,List.getElem?_tail] at hx;obtain⟨h1,h2⟩:=hx;have XQ:i+1<c.length:=(iG.1 h2).1;dsimp only;rw[bD (show((i+1:Nat):Int)<(c.length:Int) by omega)];rw[fT,show(((i+1:Nat):Int)-1)=((i:Nat):Int) from by omega,ZY (by omega),tS,VT,h1,tS,VT,h2,tS];refine congrArg (fun f=>Bd f (x.1,x.2) u)<|funext fun u'=>?_
    rw[show(((i+1:Nat):Int)+1)=((i+1+1:Nat):Int) from by omega,ZY (by omega),tS]
   ·intro k u;dsimp only;rw[cr (by rw[List.length_zip,List.length_tail];omega)];rfl
end
section
variable[D:DR]
variable{r:adx}
def agc{w:apT}{H:HV}(sub:∀r o,H r=some o->w.heap[r]? =some o)(gl:pI prog H):Lib.TabIs prog w "internal/strconv.uint64pow10" .u64 Lib.pow10Tab:=by
 obtain⟨g,hg,T,hT,e,hu⟩:∃g,prog.globalNamed "internal/strconv.uint64pow10" =some g/\∃T,(prog.globals[g]?).map (·.type)=some T/\∃e,prog.underlying T=some (.array 20 e):=by
  refine⟨((prog.globalNamed "internal/strconv.uint64pow10").getD 0),by kernel_rfl,((prog.globals[((prog.globalNamed "internal/strconv.uint64pow10").getD 0)]?).map (·.type)).getD 0,by kernel_rfl,332,by kernel_rfl⟩
 have:=gl g T hT;unfold Ea at this;rw[hu] at this;obtain⟨E,fr,e'⟩:=this;unfold Lib.TabIs World.var?;rw[hg];show(match w.heap[g]? with|some (.cells cs _ _)=>some cs|_=>none)=_;rw[sub _ _ e'];show some Bw=_
 congr 1
def ahp{x:Int}(hm:NI x=some r):al prog 253 [TI .i64 x] (.vs [TS r]):=by
 unfold NI at hm;cases hb:A6 x
 ·rw[hb] at hm;cases hm
 ·rw[hb] at hm;have hm:some (eL x)=some r:=hm;cases hm;unfold A6 at hb;obtain⟨h1,h2⟩:=eK hb;have h1:=bf h1;have h2:=bf h2;refine qc (by kernel_rfl) fun w H vs sub gl ha=>?_
  obtain⟨u,rfl,hu⟩:=sZ ha;have hu:u= .int .i64 x:=hu;subst hu;refine(strconv_Itoa x h1 h2 w<|agc sub gl).mono ?_;rintro e w' ⟨rfl,k,os,rfl⟩;refine⟨_,rfl,⟨Sk.OB,GN.of<|B2 _ _⟩,?_⟩;show Value.string _=Value.string _
  congr 3
  unfold eL Lib.itoa;by_cases h:x<0
  ·rw[if_pos h,bD h,EV];rfl
  ·rw[if_neg h,cr h,EV,show x.natAbs=x.toNat from by omega];rfl
def ahq{x y:Int}(hm:RD x y=some r):al prog 255 [TI .u64 x,TI .i64 y] (.vs [TS r]):=by
 obtain⟨hb,rfl⟩:=iL hm;obtain⟨hb,h3⟩:=eK hb;obtain⟨h1,h2⟩:=eK hb;have h1:=bf h1;have h2:=bf h2;have h3:=bf h3;subst h3;obtain⟨n,rfl⟩:=gk h1;refine qc (by kernel_rfl) fun w H vs sub gl ha=>?_
 obtain⟨u,v,rfl,hu,hv⟩:=BE ha;have hu:u= .int .u64 n:=hu;have hv:v= .int .i64 10:=hv;subst hu;subst hv;refine(Sk.R8 n (by omega) w<|agc sub gl).mono ?_;rintro e w' ⟨rfl,k,os,rfl⟩;refine⟨_,rfl,⟨Sk.OB,GN.of<|B2 _ _⟩,?_⟩;show Value.string _=Value.string _;rw[Int.toNat_natCast,EV]
def ahn{x:adx}{y:Int}(hm:RC x y=some r):al prog 256 [TS x,TI .i64 y] (.vs [TS r]):=by
 obtain⟨hb,rfl⟩:=iL hm;obtain⟨hb,h3⟩:=eK hb;obtain⟨h1,h2⟩:=eK hb;have h1:=bf h1;have h2:=bf h2;have h3:=bf h3;subst h3;obtain⟨n,rfl⟩:=gk h1;refine qc (by kernel_rfl) fun w H vs sub gl ha=>?_
 obtain⟨u,v,rfl,hu,hv⟩:=BE ha;have hu:u= .string ⟨#[48]⟩:=hu;have hv:v= .int .i64 n:=hv;subst hu;subst hv;rw[Int.toNat_natCast];rcases(show n=0\/n=1\/2<=n by omega) with h|h|h
 ·subst h;refine(strings_Repeat_zero ⟨#[48]⟩ w).mono ?_;rintro e w' ⟨rfl,rfl⟩;exact⟨_,rfl,E0.refl _ _,rfl⟩
 ·subst h;refine(strings_Repeat_one ⟨#[48]⟩ w).mono ?_;rintro e w' ⟨rfl,rfl⟩;exact⟨_,rfl,E0.refl _ _,rfl⟩
 ·refine(Sk.ani n h (by omega) w).mono ?_;rintro e w' ⟨rfl,k,rfl⟩;refine⟨_,rfl,⟨⟨rfl,rfl,rfl,bC _,fun _ _=>rfl⟩,GN.of<|B2 _ _⟩,?_⟩;show Value.string _=Value.string _;rw[Xc]
end
end Trn
