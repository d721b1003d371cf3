/-
  Part of the proof of DrawViews.
-/
import Derived.Test.YtgmphoejohhmgaaGreatDoorEc
set_option maxRecDepth 100000
set_option maxHeartbeats 20000000
set_option linter.all false
open Go Go.RowKit Go.Proofs
namespace Trn
section
open Go.Shelf
variable[D:DR]
variable{P:Program}{ρ:Ren}
variable{l:ard UInt8}{H:HV}{vs:ard apU}
set_option maxHeartbeats 1000000 in
set_option maxRecDepth 100000 in
def J0(L:Lays.n169 P ρ)(X:Builder.Extra P ρ){b:Nat}{p v:apU}{w:apT}(hbk:w.heap[b]? =some (.cells #[p,v] (ρ.t 72) (0,0)))(hown:w.ownsRow 0 (ρ.t 5) 1 v l.length (Lib.byteCells l))(h0:l≠[]):
  Calls P (ρ.f 169) #[.pointer<|some ⟨b,0,none⟩] w fun e w'=>e= .returned (.string ⟨l.toArray⟩)/\Tr (fun k=>v.ownBlock=some k) w w':=by
 have hl0:l.length≠0:=by simpa using h0
 obtain⟨g,cap,cur,rfl,hg,hnc,hcm,hcs,htake⟩:∃g cap cur,v= .slice (some ⟨g,0,none⟩) l.length cap/\w.heap[g]? =some (.cells cur (ρ.t 5) (0,0))/\l.length<=cap/\cap<=maxLen/\cur.size=cap*1/\cur.toList.take (l.length*1)=Lib.byteCells l:=by
  rcases hown.2 with⟨_,hz⟩|⟨g,cap,cur,hv,_,r⟩
  ·exact absurd hz hl0
  ·exact⟨g,cap,cur,hv,r⟩
 have c1:w.drew.cell? ⟨b,1,none⟩=some (.slice (some ⟨g,0,none⟩) l.length cap):=by
  have:w.drew.heap[b]? =some (.cells #[p,.slice (some ⟨g,0,none⟩) l.length cap] (ρ.t 72) (0,0)):=hbk;rw[Iu this];rfl
 have hSD:(Builtin.unsafeSliceData_ #[(ρ.t 37)] (ρ.t 127) #[.slice (some ⟨g,0,none⟩) l.length cap]).run P w.drew= .ok (.pointer<|some ⟨g,0,none⟩) w.drew:=
  Lib.run_unsafeSliceData_row _ _ _ _ _ _ (by omega)
 have hUS:(Builtin.unsafeString_ #[(ρ.t 127),(ρ.t 3)] (ρ.t 9) #[.pointer<|some ⟨g,0,none⟩,.int .i64 l.length]).run P w.drew= .ok (.string ⟨l.toArray⟩) (w.drew.freeze ⟨g,0,none⟩ l.length):=by
  refine Lib.run_unsafeString_row w.drew (ρ.t 127) (ρ.t 3) (ρ.t 9) (ρ.t 5) L.t127 X.cellsByte g cur.size (by have hg':w.drew.heap[g]? =some (.cells cur (ρ.t 5) (0,0)):=hg;simp[World.shape?,hg']) l h0 (by omega) (by unfold maxLen at hcm;omega) ?_;intro j x hx;exact hown.cells (g:=g) rfl j (.int .u8 x.toNat) (by simp[Lib.byteCells,hx])
 have mixed:=L.mixed;have t72:=L.t72;have a72:=L.a72;have z72:=L.z72;have v72:=L.v72;have u72:=pt L.t72;have t70:=L.t70;have a70:=L.a70;have z70:=L.z70;have v70:=L.v70;have u70:=pt L.t70;have t37:=L.t37;have a37:=L.a37;have z37:=L.z37;have v37:=L.v37;have u37:=pt L.t37;have t127:=L.t127;have a127:=L.a127;have z127:=L.z127;have v127:=L.v127;have u127:=pt L.t127;have t3:=L.t3;have a3:=L.a3;have z3:=L.z3;have v3:=L.v3;have u3:=pt L.t3;have t9:=L.t9;have a9:=L.a9;have z9:=L.z9;have v9:=L.v9;have u9:=pt L.t9;have t5:=X.t5;have a5:=X.a5;have z5:=X.z5;have v5:=X.v5;have u5:=pt X.t5
 go_enter L.f169,Body.n169_ntmps ρ
 go_wp2
 go_region_o
 all_goals (go_wp2;go_ret;exact⟨rfl,(Tr.drew w).trans<|Tr.freeze _ _ _ rfl⟩)
def yC(l s:ard UInt8):atg (ard UInt8×Int×Unit):=yW (Nat.ble (l.length+s.length) 140737488355328) (l++s,(s.length:Int),())
def xI(l:ard UInt8):atg (ard UInt8):=yW (!l.isEmpty) l
def iL{α:Type}{b:Bool}{x r:α}(h:yW b x=some r):b=true/\x=r:=by
 unfold yW at h;cases b
 ·cases h
 ·exact⟨rfl,fj h⟩
def xo(h:BF H [] vs):vs=[]:=h
def sZ{τ:Ty}(h:BF H [τ] vs):∃v,vs=[v]/\τ.ok H v:=by
 obtain⟨v,rest,e,hv,hr⟩:=h;have hr:rest=[]:=hr;subst hr;exact⟨v,e,hv⟩
def BE{τ σ:Ty}(h:BF H [τ,σ] vs):∃v u,vs=[v,u]/\τ.ok H v/\σ.ok H u:=by
 obtain⟨v,rest,e,hv,hr⟩:=h;obtain⟨u,e2,hu⟩:=sZ hr;subst e2;exact⟨v,u,e,hv,hu⟩
def byteCells_append(l s:ard UInt8):Lib.byteCells (l++s)=Lib.byteCells l++Lib.byteCells s:=by simp[Lib.byteCells]
def aaa(L:Lays.n166 P ρ)(X:Builder.Extra P ρ)(hc:dY P (ρ.f 166)=true){s:ard UInt8}{r:ard UInt8×Int×Unit}(hm:yC l s=some r):
  fF P (ρ.f 166) [] (.GO (ρ.t 72) (ρ.t 5)<|lB l) (.GO (ρ.t 72) (ρ.t 5)<|lB r.1) [TS s] [TI .i64 r.2.1,ajB r.2.2]:=by
 obtain⟨hb,rfl⟩:=iL hm;have hb:=gj hb;refine⟨hc,fun w H v ps qs sub gl hp hq hs=>?_⟩;have hp:=xo hp;subst hp;obtain⟨x,rfl,hx⟩:=sZ hq;have hx:x= .string ⟨s.toArray⟩:=hx;subst hx;obtain⟨b,p,row,rfl,hbk,hpp,hn,hB,⟨xs,hown,gq,hH⟩,hne⟩:=hs;rw[JD] at gq;subst gq;rw[EJ] at hown;refine(Lj L X (bs:=Lib.byteCells l) ⟨s.toArray⟩ hbk hpp (by simpa[Lib.byteCells] using hown) hne (by simpa[Lib.byteCells,ByteArray.size] using hb)).mono ?_;rintro e w' ⟨rfl,v',ji,V4,hne',hfr,ht⟩;have wj:Lib.strCells ⟨s.toArray⟩=Lib.byteCells s:=rfl;have V7:∀k,k=b\/row.ownBlock=some k->(bL.GO (ρ.t 72) (ρ.t 5)<|lB l).owns w (.pointer<|some ⟨b,0,none⟩) k:=fun k h=>⟨b,rfl,h.imp id fun h=>⟨p,row,hbk,h⟩⟩
 have hMn:∀k,(bL.GO (ρ.t 72) (ρ.t 5)<|lB l).owns w (.pointer<|some ⟨b,0,none⟩) k->k=b\/row.ownBlock=some k:=by
  rintro k ⟨c,e,h⟩;cases e;rcases h with h|⟨p',r',zG,h⟩
  ·exact .inl h
  ·have e2:=hbk.symm.trans zG;simp at e2;obtain⟨rfl,rfl⟩:=e2;exact .inr h
 refine⟨_,rfl,H,(ht.mono V7).AN sub<|fun k hk=>?_,⟨b,_,v',rfl,ji,.inr rfl,hn,hB,⟨_,?_,JD.2 rfl,fun g hg=>?_⟩,hne'⟩,?_,⟨#[.int .i64 s.length,.nilIface],?_,_,_,rfl,rfl,_,_,rfl,rfl,rfl⟩⟩
 ·rcases hMn k hk with rfl|h
  ·exact hn
  ·exact(hH k h).1
 ·rw[EJ,byteCells_append,List.length_append];exact(by simpa[Lib.byteCells,ByteArray.size,wj] using V4)
 ·rcases hfr g hg with h|h
  ·exact hH g h
  ·refine⟨?_,.inl h⟩;cases hh:H g with
   |none=>rfl
   |some o=>have:=wU sub hh;omega
 ·rintro k ⟨c,e,h⟩;cases e;rcases h with h|⟨p',r',zG,h⟩
  ·exact .inl<|V7 k<| .inl h
  ·have e2:=ji.symm.trans zG;simp at e2;obtain⟨rfl,rfl⟩:=e2;exact(hfr k h).imp (fun h=>V7 k<| .inr h) id
 ·simp[ByteArray.size]
def OA{T E:aq9}{l:ard Ty}{w:apT}{b:Nat}{p row:apU}(hbk:w.heap[b]? =some (.cells #[p,row] T (0,0)))(k:Nat):(bL.GO T E l).owns w (.pointer<|some ⟨b,0,none⟩) k↔k=b\/row.ownBlock=some k:=by
 constructor
 ·rintro⟨c,e,h⟩;cases e;rcases h with h|⟨p',r',zG,h⟩
  ·exact .inl h
  ·have e2:=hbk.symm.trans zG;simp at e2;obtain⟨rfl,rfl⟩:=e2;exact .inr h
 ·exact fun h=>⟨b,rfl,h.imp id fun h=>⟨p,row,hbk,h⟩⟩
def afX(L:Lays.n170 P ρ)(hc:dY P (ρ.f 170)=true):
  fF P (ρ.f 170) [] (.GO (ρ.t 72) (ρ.t 5)<|lB l) (.GO (ρ.t 72) (ρ.t 5)<|lB l) [] [TI .i64 (l.length:Int)]:=by
 refine⟨hc,fun w H v ps qs sub gl hp hq hs=>?_⟩;have hp:=xo hp;subst hp;have hq:=xo hq;subst hq;have ZC:=hs;obtain⟨b,p,row,rfl,hbk,hpp,hn,hB,⟨xs,hown,gq,hH⟩,hne⟩:=hs;rw[JD] at gq;subst gq;rw[EJ] at hown;have hl:(Lib.byteCells l).length=l.length:=by simp[Lib.byteCells]
 have hI:Lib.IsBuilder (ρ.t 72) (ρ.t 5) 0 b (Lib.byteCells l) w:=by
  rcases hpp with rfl|rfl
  ·exact .inl ⟨jc _,row,hbk,by rw[hl];exact hown,hne⟩
  ·exact .inr ⟨jc _,row,hbk,by rw[hl];exact hown,hne⟩
 refine(Any.Builder_Len L 0 b (Lib.byteCells l) w hI).mono ?_;rintro e w' ⟨rfl,rfl⟩;exact⟨_,rfl,H,(Tr.refl _ _).AN sub (fun k hk=>by
  rcases(OA hbk k).1 hk with rfl|h
  ·exact hn
  ·exact(hH k h).1),ZC,fun k hk=> .inl hk,by rw[hl];rfl⟩
def WC(L:Lays.n169 P ρ)(X:Builder.Extra P ρ)(hc:dY P (ρ.f 169)=true){r:ard UInt8}(hm:xI l=some r):
  fF P (ρ.f 169) [] (.GO (ρ.t 72) (ρ.t 5)<|lB l) .gone [] [TS r]:=by
 obtain⟨h0,rfl⟩:=iL hm;refine⟨hc,fun w H v ps qs sub gl hp hq hs=>?_⟩;have hp:=xo hp;subst hp;have hq:=xo hq;subst hq;obtain⟨b,p,row,rfl,hbk,hpp,hn,hB,⟨xs,hown,gq,hH⟩,hne⟩:=hs;rw[JD] at gq;subst gq;rw[EJ] at hown;refine(J0 L X hbk hown (by rintro rfl;simp at h0)).mono ?_;rintro e w' ⟨rfl,ht⟩;exact⟨_,rfl,H,(ht.mono fun k h=>(OA hbk k).2<| .inr h).AN sub (fun k hk=>by
  rcases(OA hbk k).1 hk with rfl|h
  ·exact hn
  ·exact(hH k h).1),trivial,fun k hk=>hk.elim,rfl⟩
def VK(l:ard UInt8):atg (ard UInt8×Int):=some (l,(l.length:Int))
def adp(L:Lays.n170 P ρ)(hc:dY P (ρ.f 170)=true){r:ard UInt8×Int}(hm:VK l=some r):
  fF P (ρ.f 170) [] (.GO (ρ.t 72) (ρ.t 5)<|lB l) (.GO (ρ.t 72) (ρ.t 5)<|lB r.1) [] [TI .i64 r.2]:=by
 have hm:=fj hm;subst hm;exact afX L hc
instance instDecAVec:DecidableEq (ard UInt8×ard UInt8×ard UInt8):=inferInstance
end
section
open Go.Shelf
variable[D:DR]
variable{P:Program}{ρ:Ren}
variable{P:Program}{w0:aq P}{H0:HV}{N:Nat}{Γ:Ctx}{Q:Exit->Act->World->Prop}
def ame{id:Nat}(h:lV w0 H0 N (Q .ret) Γ):lV w0 H0 N (Exit.inBlock id Q .ret) Γ:=h
end
section
open Go.Shelf
variable[D:DR]
variable{P:Program}{ρ:Ren}
variable{P:Program}{N:Nat}{ops:Array Oper}{Γ:Ctx}{ty:TypeId}{pos:String}{af:Array Edge}
def SZ{u t dd:Nat}{s:bL}(hu:look Γ u=some (.same t))(ht:look Γ t=some s)(hl:s.bH=[])(na:dd<N)(o:Op)(ho:o= .assign (.tmp u)\/o= .move (.tmp u)):
  Step P N ops ⟨some dd,o,ty,pos,af,none⟩ Γ ((dd,s)::del dd (bN t Γ)):=by
 intro w0 H0 a w H cn K Q k;simp only[Region.wanted,if_true];have eu:aV a u=aV a t:=cn.holds _<|ay hu
 have er:(execOp a.eval ⟨some dd,o,ty,pos,af,none⟩).run P w= .ok (.value<|aV a t) w:=by
  rw[<-eu];rcases ho with rfl|rfl<;>rfl
 unfold Oper.wp;rw[er,tx];exact k _ w H (AR cn (ay ht) (Cg w) (fun _ e=>by cases e) na (by rw[hl];simp) (cn.holds _<|ay ht) fun _ h=> .inl h)
end
section
open Go.Shelf
variable[D:DR]
variable{P:Program}{ρ:Ren}
def Ej{α:Type}(l:ard α):atg (ard α):=yW (Nat.blt l.length 4000000000) l
def Xv(l:ard (ard UInt8))(x:ard UInt8):atg (ard UInt8):=bd (ahK l x) fun r=>yW (Nat.ble l.length 140737488355328&&Nat.ble r.length 140737488355328) r
def acI{P:arb}{w0:aq P}{N:Nat}{Γ az:Ctx}{ts:ard Nat}(h:uX Γ ts az):qj w0 N Γ az:=fun _ _ _ H hs=>⟨H,hs.weaken h.sub⟩
def xv(x y:Int):atg (Int×Int):=bif v8 x&&v8 y then some (x*y/Hg,x*y%Hg) else none
def CF(n:Nat):Nat:=bif Nat.beq n 0 then 0 else Nat.log2 n+1
def Ii(x:Int):atg Int:=bif v8 x then some (CF x.toNat:Int) else none
def JG(x:Int):atg Int:=bif v8 x then some (64-(CF x.toNat:Int)) else none
end
section
variable[D:DR]
variable{P:Program}{w0:aq P}{H0:HV}{N:Nat}{ops:Array Oper}{Q:Exit->Act->World->Prop}{Γ az:Ctx}{d:Option Tmp}{ty:TypeId}{pos:String}{af:Array Edge}{g:Option (Nat×Bool)}
variable{α:Type}{f:α->Ty}{l:ard α}{t:Nat}{T E:aq9}{sz:Nat}{pre post:ard apU}{y:α}{p j:Nat}{x:arc}{z:α}
def uz{s ix:arc}{k:IntKind}{i:Int}(hT:Ay P T sz=true)(hs:dZ Γ s t)(ht:look Γ t=some (.od E pre post<|lT f l))(hi:Arg Γ ix (TI k i))(h:bm l i=some y):
  bI P Γ ⟨d,.indexAddr T s ix,ty,pos,af,g⟩ (.Jb t i.toNat sz):=
 bb fun w0 _ _ a w H cn=>by
  obtain⟨h0,h1,h3⟩:=py h;obtain⟨b,c,cur,xs,e,_⟩:=cn.holds _<|ay ht
  simp only at e;have e3:a.eval s= .slice (some ⟨b,pre.length,none⟩) l.length c:=by
   rw[hs.ok cn,e,fW]
  have ei:a.eval ix= .int k i:=hi.ok cn;have hr:=xU (P:=P) hT b pre.length l.length c (k:=k) h0 h1 w;exact⟨.pointer<|some ⟨b,pre.length+i.toNat*sz,none⟩,by simp only[execOp,e3,ei,eN,hr,eE];rfl,⟨b,pre.length,_,c,e,rfl⟩,rfl⟩
def BA(hf:∀z,(f z).n=sz)(hp:look Γ p=some (.Jb t j sz))(ht:look Γ t=some (.od E pre post<|lT f l))(h:l[j]? =some y)(hT:dR P T (f y).n (f y).agg=true):
  bI P Γ ⟨d,.load T<| .tmp p,ty,pos,af,g⟩ (.val<|f y):=
 bb fun w0 _ _ a w H cn=>by
  obtain⟨b,c,cur,xs,e,hb,Gp,ho,hH,hB⟩:=cn.holds _<|ay ht
  obtain⟨b',o,n',c',e1,e2⟩:=cn.holds _<|ay hp
  simp only at e e1 e2;rw[e] at e1;cases e1;have hj:(lT f l)[j]? =some (f y):=by rw[mH,h];rfl
  have OP:=(iG.1 hj).1;have hu:GK sz (lT f l):=lR hf l;have e3:a.eval (.tmp p)= .pointer (some ⟨b,pre.length+j*sz,none⟩):=e2;obtain⟨p1,p2⟩:=nL ho hj;have hc:cw ((lT f l).take j)=j*sz:=by rw[hZ<|hu.take _,List.length_take,fA (by omega)]
  rw[hc] at p1 p2;have Gn:List.take (f y).n (List.drop (pre.length+j*sz) cur.toList)=List.take (f y).n (List.drop (j*sz) xs):=by
   rw[Gp,<-iF,EC,List.drop_append_of_le_length (by omega),List.take_append_of_le_length (by simp;omega)]
  have NS:cur.size=pre.length+(xs.length+post.length):=by rw[<-gi,Gp];simp
  refine⟨_,?_,p2,rfl⟩;have hr:=lD (P:=P) hT hb (off:=pre.length+j*sz) (by omega);rw[Gn] at hr;simp[execOp,e3,Instr.loadAt,Instr.sureAddr,hr]
def WV{c8:Ctx}(bO:∀q∈c8,q∈Γ)(hf:∀z,(f z).n=sz)(hp:look c8 p=some (.Jb t j sz))(ht:look c8 t=some (.od E pre post<|lT f l))(h:l[j]? =some z)(hx:Arg c8 x (f y))(hT:dR P T (f y).n (f y).agg=true):
  Step P N ops ⟨none,.store T (.tmp p) x,ty,pos,af,none⟩ Γ ((t,.od E pre post<|lT f<|l.set j y)::bN t Γ):=by
 intro w0 H0 a w H cn K Q k;simp only[Region.wanted,if_true];obtain⟨b,c,cur,xs,e,hb,Gp,ho,hH,hB⟩:=cn.holds _ (bO _<|ay ht);obtain⟨b',o,n',c',e1,e2⟩:=cn.holds _ (bO _<|ay hp);simp only at e e1 e2;rw[e] at e1;cases e1;have hj:(lT f l)[j]? =some (f z):=by rw[mH,h];rfl
 have OP:=(iG.1 hj).1;have hu:GK sz (lT f l):=lR hf l;have ep:a.eval (.tmp p)= .pointer (some ⟨b,pre.length+j*sz,none⟩):=e2;have FR:=hx.ok<|cn.weaken bO
 have nP:=(f y).shape FR;have hc:cw ((lT f l).take j)=j*sz:=by rw[hZ<|hu.take _,List.length_take,fA (by omega)]
 obtain⟨p1,_⟩:=nL ho hj;rw[hc,hf] at p1;have tX:=BH ho hj ((hf y).trans (hf z).symm) FR;rw[hc,hf] at tX;have NS:cur.size=pre.length+(xs.length+post.length):=by rw[<-gi,Gp];simp
 have qb:=lr (P:=P) (off:=pre.length+j*sz) (A5 hT) nP.size hb (by rw[hf];omega) nP.cell;rw[hf] at qb;unfold Oper.wp;have er:(execOp a.eval ⟨none,.store T (.tmp p) x,ty,pos,af,none⟩).run P w= .ok .skip (w.setRow b (cur.toList.take (pre.length+j*sz)++(a.eval x).cells.toList++cur.toList.drop (pre.length+j*sz+sz)).toArray):=by
  simp[execOp,ep,Instr.storeAt,Instr.sureAddr,qb]
 rw[er,vA];have Uf:cur.toList.take (pre.length+j*sz)++(a.eval x).cells.toList++cur.toList.drop (pre.length+j*sz+sz)=pre++((xs.take (j*sz)++(a.eval x).cells.toList++xs.drop (j*sz+sz))++post):=by
  have t1:(pre++(xs++post)).take (pre.length+j*sz)=pre++xs.take (j*sz):=by
   rw[Iw,eJ (by omega)]
   congr 1
   rw[show pre.length+j*sz-pre.length=j*sz from by omega,List.take_append_of_le_length (by omega)]
  have t2:(pre++(xs++post)).drop (pre.length+j*sz+sz)=xs.drop (j*sz+sz)++post:=by
   rw[tu,<-iF,EC,List.drop_append_of_le_length (by omega)]
  rw[Gp,t1,t2];simp
 rw[Uf];have hg:zM w (w.setRow b (pre++((xs.take (j*sz)++(a.eval x).cells.toList++xs.drop (j*sz+sz))++post)).toArray) (some b):=zM.setRow w b _;refine k a _ H (iK cn (bO _<|ay ht) hg hB (by simp[bL.owns,e,Value.ownBlock]) ?_ fun c hc=> .inl hc);refine⟨b,c,_,_,by rw[e];simp[lT],Eu w b _ _ _ _ hb,rfl,?_,hH,hB⟩;rw[show lT f (l.set j y)=(lT f l).set j (f y) from by simp[lT,xz]];exact tX
def Ve(hf:∀z,(f z).n=sz)(hp:look Γ p=some (.Jb t j sz))(ht:look Γ t=some (.od E pre post<|lT f l))(h:l[j]? =some z)(hx:Arg Γ x (f y))(hT:dR P T (f y).n (f y).agg=true):
  Step P N ops ⟨none,.store T (.tmp p) x,ty,pos,af,none⟩ Γ ((t,.od E pre post<|lT f<|l.set j y)::bN t Γ):=WV (fun _ h=>h) hf hp ht h hx hT
def aes(hf:∀z,(f z).n=sz)(hp:look Γ p=some (.Jb t j sz))(ht:look Γ t=some (.od E pre post<|lT f l))(h:l[j]? =some z)(hx:Arg Γ x (f y))(hT:dR P T (f y).n (f y).agg=true):
  Px P N ops Γ ⟨none,.store T (.tmp p) x,ty,pos,af,none⟩ t (.od E pre post<|lT f<|l.set j y):=fun _ bO=>WV bO hf hp ht h hx hT
end
section
variable[D:DR]
variable{P:Program}{w0:aq P}{H0:HV}{N:Nat}{ops:Array Oper}{Γ az:Ctx}{d:Option Tmp}{ty:TypeId}{pos:String}{af:Array Edge}{g:Option (Nat×Bool)}
variable{E:aq9}{sz t:Nat}{α:Type}{f:α->Ty}{l:ard α}{xs:ard arc}{r9:ath aq9}{dd:Nat}{x:arc}{i n u:Nat}{bl args:ard Ty}
def P6{T:aq9}{lo hi:atg arc}{i j:Int}(hT:Ay P T sz=true)(hs:dZ Γ x t)(ht:look Γ t=some (.buf E sz<|lT f l))(FU:Lo Γ lo 0 i)(Ug:Lo Γ hi l.length j)(h:(decide (0<=i)&&decide (i<j)&&decide (j<=l.length))=true):
  bI P Γ ⟨d,.slice T x lo hi none,ty,pos,af,g⟩ (.win t i.toNat (j-i).toNat sz):=
 bb fun w0 _ _ a w H cn=>by
  rw[bV,bV,jJ,jJ,jJ] at h;obtain⟨⟨h1,h2⟩,h3⟩:=h;obtain⟨b,cap,cs,xs,e,hb,hcap,_⟩:=Bf (cn.holds _<|ay ht) (fun e=>by
   have:l=[]:=List.map_eq_nil_iff.1 e;rw[this] at h3;simp at h3;omega)
  simp only at e;rw[fW] at e hcap;obtain⟨el,ii,hue,hii,hsz⟩:=Ls hT;have wa:∀w,(Go.sizeOf el).run P w= .ok sz w:=fun w=>by simp[Go.sizeOf,typeInfo,program,Sem.run,hii,hsz]
  have hbd:=Cw (P:=P) (b:=true) (cap:=cap) (w:=w) FU Ug h1 (by omega) h3 hcap cn;have e3:a.eval x= .slice (some ⟨b,0,none⟩) l.length cap:=by rw[hs.ok cn];exact e
  refine⟨.slice (some ⟨b,i.toNat*sz,none⟩) (j-i).toNat<|cap-i.toNat,?_,⟨b,_,cap,cap-i.toNat,e,rfl⟩,rfl⟩;have hne: ¬cap=i.toNat:=by omega
  have hn:j.toNat-i.toNat=(j-i).toNat:=by omega
  simp[execOp,e3,Instr.sliceAt,aO hue,Instr.slice,hbd,wa,addr_add,hne,hn]
def aeG{B:aq P}{w:apT}{H:HV}{v:apU}(hf:∀z,(f z).n=sz)(h:vN B w H E sz (lT f l) v)(hn:0<n)(hl:i+n<=l.length){b:Nat}{len cap:Nat}(hv:v= .slice (some ⟨b,0,none⟩) len cap)(c:Nat):
  ∃pre post:ard apU,pre.length=i*sz/\(bL.od E pre post<|lT f<|(l.drop i).take n).holds B Si w H (.slice (some ⟨b,i*sz,none⟩) n c)/\
   ∀(w':apT) (H':HV) (r:ard α),HV.le H H'->r.length=n->(bL.od E pre post<|lT f r).holds B Si w' H' (.slice (some ⟨b,i*sz,none⟩) n c)->vN B w' H' E sz (lT f<|l.take i++r++l.drop (i+n)) v:=by
 subst hv;obtain⟨xs,⟨FT,hr⟩,ho,hH⟩:=h;rcases hr with⟨e,_⟩|⟨g',Z9,cur,e,h0,hb,hcap,hm,hcs,htake⟩
 ·cases e
 cases e;have hu:GK sz (lT f l):=lR hf l;have FT:xs.length=l.length*sz:=by simpa using FT
 rw[fW] at htake hcap;have s1:i*sz+n*sz<=xs.length:=by rw[FT,<-om];exact mI _ hl
 have Gp:cur.toList=xs++cur.toList.drop (l.length*sz):=by
  conv=>lhs;rw[<-yI (l.length*sz) cur.toList,htake]
 have hx3:xs=xs.take (i*sz)++((xs.drop<|i*sz).take (n*sz)++xs.drop (i*sz+n*sz)):=by
  conv=>lhs;rw[<-yI (i*sz) xs]
  congr 1
  conv=>lhs;rw[<-yI (n*sz) (xs.drop<|i*sz),iF]
 have NU:(xs.take<|i*sz).length=i*sz:=by rw[List.length_take];omega
 have VC:∀(lo hi:Nat),uD H ((lT f l).take hi|>.drop lo) ((xs.take<|hi*sz).drop<|lo*sz):=fun lo hi=>Af hu ho lo hi
 refine⟨xs.take<|i*sz,xs.drop (i*sz+n*sz)++cur.toList.drop (l.length*sz),NU,?_,?_⟩
 ·refine⟨b,c,cur,(xs.drop<|i*sz).take<|n*sz,?_,hb,?_,?_,(hH b rfl).1,(hH b rfl).2⟩
  ·rw[NU];simp;omega
  ·have e0:xs++cur.toList.drop (l.length*sz)=(xs.take (i*sz)++((xs.drop<|i*sz).take (n*sz)++xs.drop (i*sz+n*sz)))++cur.toList.drop (l.length*sz):=by rw[<-hx3]
   exact Gp.trans (e0.trans (by rw[rQ,rQ]))
  ·have:=VC i (i+n);rw[show((lT f l).take<|i+n).drop i=lT f ((l.drop i).take n) from by simp[lT,<-List.map_take,<-List.map_drop,tv]] at this;rw[om,tv,show i*sz+n*sz-i*sz=n*sz from by omega] at this;exact this
 ·rintro w' H' r hle hrl ⟨g2,c2,ai1,xs2,e2,hb2,Qn,XO,Pm,hB2⟩;have e3:g2=b:=by
   simp only[Value.slice.injEq,Option.some.injEq,Addr.mk.injEq] at e2;exact e2.1.1.symm
  subst e3;have JO:uD H' (lT f<|l.take i++r++l.drop (i+n)) (xs.take (i*sz)++xs2++xs.drop (i*sz+n*sz)):=by
   have p1:=VC 0 i;have p2:=VC (i+n) l.length;rw[LJ,xA,xA] at p1;rw[eJ (by simp[lT]),eJ (by omega),om] at p2;have:=uC (uC (ta hle p1) XO)<|ta hle p2
   rwa [show(lT f l).take i++lT f r++(lT f l).drop (i+n)=lT f (l.take i++r++l.drop (i+n)) from by simp[lT,List.map_take,List.map_drop]] at this
  have NX:xs2.length=n*sz:=by
   have:=nB XO;rw[hZ<|lR hf r] at this;simpa[hrl] using this
  have hlen:(lT f<|l.take i++r++l.drop (i+n)).length=l.length:=by simp[hrl];omega
  have akV:(xs.take (i*sz)++xs2++xs.drop (i*sz+n*sz)).length=l.length*sz:=by
   rw[List.length_append,List.length_append,NU,NX,mG,FT];omega
  have hc3:ai1.toList=(xs.take (i*sz)++xs2++xs.drop (i*sz+n*sz))++cur.toList.drop (l.length*sz):=by
   rw[Qn];simp
  have htk:ai1.toList.take (l.length*sz)=xs.take (i*sz)++xs2++xs.drop (i*sz+n*sz):=by
   rw[hc3,List.take_append_of_le_length (by omega),eJ (by omega)]
  refine⟨xs.take (i*sz)++xs2++xs.drop (i*sz+n*sz),⟨by rw[hlen];exact akV,.inr ⟨g2,cap,ai1,by rw[hlen];simp,jc _,hb2,by rw[hlen];exact hcap,hm,?_,by rw[hlen];exact htk⟩⟩,JO,fun b' ji=>?_⟩
  ·have q1:cur.toList.length=cap*sz:=by rw[gi];exact hcs
   have q2:l.length*sz<=cap*sz:=mI _ hcap;rw[<-gi,hc3,List.length_append,akV,mG,q1];omega
  ·have:g2=b':=by simpa[Value.ownBlock] using ji
   subst this;exact⟨Pm,hB2⟩
def abE{r:ard α}{fn:FuncId}{ys:ard arc}{pre post c6:ard Ty}{c8:Ctx}(bO:∀q∈c8,q∈Γ)(hf:∀z,(f z).n=sz)
 (hS:∀(ps qs:ard apU),ps.length=i*sz->fF P fn pre (.od E ps qs<|lT f<|(l.drop i).take n) (.od E ps qs<|lT f r) post c6)(hx:dZ c8 x u)(hu:look c8 u=some (.win t i n sz))(ht:look c8 t=some (.buf E sz<|lT f l))
 (hn:(Nat.blt 0 n&&Nat.ble (i+n) l.length&&Nat.beq r.length n)=true)(ha:aJ c8 xs pre)(hb:aJ c8 ys post)(na:dd<N)(hne:dd≠t):
  Step P N ops ⟨some dd,.call ⟨.value<| .func fn,(xs++x::ys).toArray,r9⟩,ty,pos,af,none⟩ Γ ((dd,sW c6)::(t,.buf E sz<|lT f<|l.take i++r++l.drop (i+n))::del dd (bN t Γ)):=by
 rw[bV,bV] at hn;obtain⟨⟨V6,Pm⟩,hn3⟩:=hn;have V6:=gj V6;have Pm:=gj Pm;have hn3:=fB hn3;intro w0 H0 a w H hs K Q k;simp only[Region.wanted,if_true];have K9:=hs.weaken bO;have wj:=hs.holds _<|bO _<|ay ht
 simp only at wj;obtain⟨b,len,cap,c,ev,eu⟩:=hs.holds _<|bO _<|ay hu
 simp only at ev eu;obtain⟨ps,qs,hps,hw,acr⟩:=aeG hf wj V6 Pm ev c;have can:dY P fn=true:=(hS ps qs hps).can;have e:execOp a.eval ⟨some dd,.call ⟨.value<| .func fn,(xs++x::ys).toArray,r9⟩,ty,pos,af,none⟩=callFunc fn (xs.map a.eval++aV a u::ys.map a.eval).toArray:=by
  have e:execOp a.eval ⟨some dd,.call ⟨.value<| .func fn,(xs++x::ys).toArray,r9⟩,ty,pos,af,none⟩=callFunc fn (#[]++(xs++x::ys).toArray.map a.eval++ #[]):=rfl;rw[e]
  congr 1
  simp[hx.ok K9]
 unfold Oper.wp;rw[e,jo can,BZ,eu];have hw0:(bL.od E ps qs<|lT f<|(l.drop i).take n).holds (aq.JH P w fun b'=>(bL.od E ps qs<|lT f<|(l.drop i).take n).owns w (.slice (some ⟨b,i*sz,none⟩) n c) b') Si w H (.slice (some ⟨b,i*sz,none⟩) n c):=
  bL.pz rfl hw fun b' ji=> .inr ji
 have hown:∀b',(bL.od E ps qs<|lT f<|(l.drop i).take n).owns w (.slice (some ⟨b,i*sz,none⟩) n c) b'↔(bL.buf E sz<|lT f l).owns w (aV a t) b':=fun b'=>by
  rw[ev];exact Iff.rfl
 refine((hS ps qs hps).run w H _ _ _ hs.sub hs.gl (ha.ok K9) (hb.ok K9) hw0).mono ?_;rintro e w' ⟨rv,rfl,H',hy,oV,ho,hr⟩;have hy':I2 (fun b'=>(bL.buf E sz<|lT f l).owns w (aV a t) b') w H w' H':=by
  have:(fun b'=>(bL.buf E sz<|lT f l).owns w (aV a t) b')=fun b'=>(bL.od E ps qs<|lT f<|(l.drop i).take n).owns w (.slice (some ⟨b,i*sz,none⟩) n c) b':=funext fun b'=>propext (hown b').symm
  rw[this];exact hy
 have La:(bL.od E ps qs<|lT f r).holds w0 Si w' H' (.slice (some ⟨b,i*sz,none⟩) n c):=bL.pz rfl oV fun b' ji=>by
  have ji:(bL.buf E sz<|lT f l).owns w (aV a t) b':=by rw[ev];exact ji
  exact bL.qO rfl wj ji
 have tN:(bL.buf E sz<|lT f<|l.take i++r++l.drop (i+n)).holds w0 a w' H' (aV a t):=acr w' H' r hy.le hn3 La;have h1:=Ta hs (bO _<|ay ht) rfl rfl (fun q hq _ b hb=>aq.xp<|bL.qO rfl wj hb) hy' tN<|fun b' ji=> .inl ji
 have h2:=o9 (h1.weaken (az:=del dd ((t,.buf E sz<|lT f<|l.take i++r++l.drop (i+n))::bN t Γ)) kB) na pF (s:=sW c6) (v:=rv) (by
  match c6 with
  |[]=>simp[sW,bL.bH]
  |[_]=>simp[sW,bL.bH]
  |_::_::_=>simp[sW,bL.bH]) (rL hr)<|fun b e=>absurd e<|bL.free_spec uy
 refine k _ w' H'<|h2.weaken fun q hq=>?_
 simp only[bM] at hq⊢;rcases hq with h|h|h
 ·exact .inl h
 ·subst h;exact .inr (p6 (by simp) (fun e=>hne e.symm) (by simp[bL.bH]))
 ·have:=Ol h;exact .inr<|p6 (fC _<|kB _ h) this.1 this.2
def S1{r:ard α}{fn:FuncId}{ys:ard arc}{pre post c6:ard Ty}(hf:∀z,(f z).n=sz)
 (hS:∀(ps qs:ard apU),ps.length=i*sz->fF P fn pre (.od E ps qs<|lT f<|(l.drop i).take n) (.od E ps qs<|lT f r) post c6)(hx:dZ Γ x u)(hu:look Γ u=some (.win t i n sz))(ht:look Γ t=some (.buf E sz<|lT f l))
 (hn:(Nat.blt 0 n&&Nat.ble (i+n) l.length&&Nat.beq r.length n)=true)(ha:aJ Γ xs pre)(hb:aJ Γ ys post)(na:dd<N)(hne:(dd !=t)=true):
  Step P N ops ⟨some dd,.call ⟨.value<| .func fn,(xs++x::ys).toArray,r9⟩,ty,pos,af,none⟩ Γ ((dd,sW c6)::(t,.buf E sz<|lT f<|l.take i++r++l.drop (i+n))::del dd (bN t Γ)):=
 abE (fun _ h=>h) hf hS hx hu ht hn ha hb na (by simpa using hne)
structure zN(P:arb)(f:FuncId)(E:aq9)(sz:Nat)(bl:ard Ty)(args:ard Ty)(l:ard Ty):Prop where
 can:dY P f=true
 run:∀(w:apT) (H:HV) (v:apU) (xs:ard apU) (vs:ard apU),(∀r o,H r=some o->w.heap[r]? =some o)->pI P H->w.ownsRow 0 E sz v bl.length xs->uD H bl xs->(∀b,v.ownBlock=some b->H b=none)->BF H args vs->
  Calls P f (v::vs).toArray w fun e w'=>∃r,e= .returned r/\zM w w' v.ownBlock/\∃xs',w'.ownsRow 0 E sz r l.length xs'/\uD H l xs'/\∀b,r.ownBlock=some b->v.ownBlock=some b
def zN.pub{f:FuncId}{l:ard Ty}(h:zN P f E sz bl args l):EZ P f E sz bl args [I8 l]:=
 ⟨h.can,fun w H v xs vs sub gl ho hx hb ha=>(h.run w H v xs vs sub gl ho hx hb ha).mono fun _ w' ⟨r,e,hg,xs',h3,h4,h5⟩=>by
  have hn:∀b,r.ownBlock=some b->H b=none:=fun b hbr=>hb b<|h5 b hbr
  have hle:HV.le H (fun c=>if r.ownBlock=some c then w'.heap[c]? else H c):=by
   intro c o hc;by_cases e:r.ownBlock=some c
   ·rw[hn c e] at hc;cases hc
   ·simp[e,hc]
  refine⟨r,e,hg,fun c=>if r.ownBlock=some c then w'.heap[c]? else H c,hle,?_,?_,?_⟩
  ·intro c _ hc;have:r.ownBlock≠some c:=fun e=>hc<|h5 c e
   simp[this]
  ·intro c o hc;by_cases e:r.ownBlock=some c
   ·simpa[e] using hc
   ·simp only[e,if_false] at hc;rw[hg.block c (lt_of_heap<|sub c o hc) (fun e2=>by rw[hb c e2.symm] at hc;cases hc)];exact sub c o hc
  ·exact Cl (a:=⟨#[],[]⟩) (B:=aq.JH P w fun b=>v.ownBlock=some b) (w:=w') (H:=H) ⟨xs',h3,h4,fun b hb2=>⟨hn b hb2,.inr<|h5 b hb2⟩⟩ hle (fun b hb2 _ o hbo=>by simp[hb2,hbo])⟩
def ZT{s:arc}{f:FuncId}{l:ard Ty}(A7:zN P f E sz bl args l)(hs:s= .tmp t\/∃u,s= .tmp u/\look Γ u=some (.same t))(ht:look Γ t=some (.buf E sz bl))(ha:aJ Γ xs args)(na:dd<N):
  Py P N ops Γ ⟨some dd,.call ⟨.value<| .func f,(s::xs).toArray,r9⟩,ty,pos,af,none⟩ t dd (.buf E sz l):=by
 intro sI bO w0 H0 a w H cn K Q k;simp only[Region.wanted,if_true];have hb:=cn.holds _<|bO _<|ay ht
 obtain⟨ys,hr,ho,hn⟩:=hb;have es:a.eval s=aV a t:=by
  rcases hs with rfl|⟨u,rfl,hu⟩
  ·rfl
  ·exact cn.holds _<|bO _<|ay hu
 have e0:execOp a.eval ⟨some dd,.call ⟨.value<| .func f,(s::xs).toArray,r9⟩,ty,pos,af,none⟩=callFunc f (#[]++(s::xs).toArray.map a.eval++ #[]):=rfl;unfold Oper.wp;rw[e0,jo A7.can,BZ];have e2:(#[]++(s::xs).toArray.map a.eval++ #[])=(aV a t::xs.map a.eval).toArray:=by simp[es]
 rw[e2];refine(A7.run w H _ ys _ cn.sub cn.gl hr ho (fun b hb=>(hn b hb).1)<|ha.ok<|cn.weaken bO).mono ?_;rintro e w' ⟨r,rfl,hg,xs',h3,h4,h5⟩;have Qm:∀b,(aV a t).ownBlock=some b->w0.mg b/\H b=none/\∀l,w.heap[b]? ≠some (.deferred l):=fun b hb=>⟨(hn b hb).2,(hn b hb).1,fun l e=>by
  obtain⟨_,_,o,h3,h4⟩:=bL.lE (s:= .buf E sz bl) (B:=w0) (a:=a) ⟨ys,hr,ho,hn⟩ hb;rw[h3] at e;cases e;exact h4⟩
 have Qj:∀b o,H b=some o->w'.heap[b]? =some o:=fun c o hc=>by
  rw[hg.block c (lt_of_heap<|cn.sub c o hc) (fun e2=>by rw[(hn c e2.symm).1] at hc;cases hc)];exact cn.sub c o hc
 have UY:∀q∈del dd (bN t sI),∀c,q.2.owns w (aV a q.1) c->(aV a t).ownBlock≠some c:=fun q hq c hc e=>
  cn.sep _ (bO _<|ay ht) q (bG q<|kB q hq).1 (fun e=>(bG q<|kB q hq).2 e.symm) c e hc
 have kO:Sat w0 H0 N (del dd<|bN t sI) a w' H:=
  Tb cn hg Qm (HV.le.refl _) (fun _ _ _=>rfl) Qj fun q hq=>⟨(bG q<|kB q hq).1,UY q hq⟩
 refine k _ w' H (o9 kO na pF (by simp[bL.bH]) ⟨xs',h3,h4,fun b hb=>⟨(hn b<|h5 b hb).1,(hn b<|h5 b hb).2⟩⟩ ?_);intro b hb q hq hq2;have hb:r.ownBlock=some b:=hb;have ZF:=(bG q<|kB q hq).1;have F:Far w0.lo (fun b=>q.2.owns w (aV a q.1) b) w H w' H:=by
  have hk:∀c,c<w.heap.size->(c<w0.lo\/q.2.owns w (aV a q.1) c)->(aV a t).ownBlock≠some c:=fun c _ h e=>by
   rcases h with h|h
   ·have:=aq.xp (hn c e).2;omega
   ·exact UY q hq c h e
  exact⟨hg.size,hg.os,hg.tape,hg.output,hg.drawn,HV.le.refl _,fun c hc h=>hg.block c hc<|fun e=>hk c hc h e.symm,fun _ _ _=>rfl,Qj⟩
 exact UY q hq b (((bL.A8 (cn.holds q ZF) F).2 b).1 hq2)<|h5 b hb
def YR{f:FuncId}{l:ard Ty}(A7:zN P f E sz bl args l)(hu:look Γ u=some (.same t))(ht:look Γ t=some (.buf E sz bl))(ha:aJ Γ xs args)(na:dd<N):
  Step P N ops ⟨some dd,.call ⟨.value<| .func f,(.tmp u::xs).toArray,r9⟩,ty,pos,af,none⟩ Γ ((dd,.buf E sz l)::del dd (bN t Γ)):=ZT A7 (.inr ⟨u,rfl,hu⟩) ht ha na Γ<|fun _ h=>h
end
section
variable[D:DR]
def ck(b:Bool)(p:Prop):Prop:=match b with
 |true=>p
 |false=>False
def Z7{b:Bool}{p:Prop}(h:ck b p):b=true/\p:=by
 cases b
 ·exact h.elim
 ·exact⟨rfl,h⟩
def lkV(o:atg bL)(K:Ty->Prop):Prop:=match o with
 |some (.val τ)=>K τ
 |_=>False
def ahL{o:atg bL}{K:Ty->Prop}(h:lkV o K):∃τ,o=some (.val τ)/\K τ:=by
 unfold lkV at h;split at h
 ·exact⟨_,rfl,h⟩
 ·exact h.elim
def Sp(Γ:Ctx):ard Nat->atg Ctx
 |[]=>some []
 |t::ts=>match look Γ t,Sp Γ ts with
  |some s,some az=>some ((t,s)::az)
  |_,_=>none
def Hq{Γ:Ctx}:∀{ts:ard Nat} {az:Ctx},Sp Γ ts=some az->uX Γ ts az
 |[],_,h=>by cases h;exact .nil
 |t::ts,az,h=>by
  unfold Sp at h;split at h
  ·rename_i h1 h2;cases h;exact .cons h1<|Hq h2
  ·cases h
end
section
variable[D:DR]
variable{P:Program}{w0:aq P}{H0:HV}{N:Nat}{ops:Array Oper}{Γ az fG:Ctx}{l:List Oper}{d:Nat}{op:Op}{ty:TypeId}{pos:String}{af:Array Edge}{K:Ctx->Prop}{Q:Exit->Act->World->Prop}
variable{s:bL}
structure CK(P:arb)(w0:aq P)(N:Nat)(ops:ath Oper)(l:ard Oper)(Γ:Ctx)(K:Ctx->Prop):Prop where
 w:∃az,ft P w0 N ops l Γ az/\K az
def fr(N d:Nat)(s:bL)(Γ:Ctx):Bool:=Nat.blt d N&&(mK d Γ&& !s.tI d)
def fo(N d:Nat)(s:bL):Bool:=Nat.blt d N&& !s.tI d
def fr_{N d:Nat}{Γ:Ctx}(h:fr N d s Γ=true):d<N/\mK d Γ=true/\s.tI d=false:=by
 simp only[fr,bV,gY] at h;exact⟨bU h.1,h.2.1,h.2.2⟩
def fo_{N d:Nat}(h:fo N d s=true):d<N/\s.tI d=false:=by
 simp only[fo,bV,gY] at h;exact⟨bU h.1,h.2⟩
def cP(h:bI P Γ ⟨some d,op,ty,pos,af,none⟩ s)(r:ck (fr N d s Γ) (CK P w0 N ops l ((d,s)::Γ) K)):CK P w0 N ops (⟨some d,op,ty,pos,af,none⟩::l) Γ K:=by
 obtain⟨hb,az,h1,h2⟩:=Z7 r;obtain⟨b1,b2,b3⟩:=fr_ hb;exact⟨az,.cons (Step.pure h rfl rfl b1 b2 b3) h1,h2⟩
def cO(h:bI P Γ ⟨some d,op,ty,pos,af,none⟩ s)(r:ck (fo N d s) (CK P w0 N ops l ((d,s)::del d Γ) K)):CK P w0 N ops (⟨some d,op,ty,pos,af,none⟩::l) Γ K:=by
 obtain⟨hb,az,h1,h2⟩:=Z7 r;obtain⟨b1,b3⟩:=fo_ hb;exact⟨az,.cons (Step.over h rfl rfl b1 b3) h1,h2⟩
def cS{o:Oper}(h:Step P N ops o Γ fG)(r:CK P w0 N ops l fG K):CK P w0 N ops (o::l) Γ K:=by
 obtain⟨az,h1,h2⟩:=r;exact⟨az,.cons h h1,h2⟩
def cG(h:qj w0 N Γ fG)(r:CK P w0 N ops l fG K):CK P w0 N ops l Γ K:=by
 obtain⟨az,h1,h2⟩:=r;exact⟨az,.ghost h h1,h2⟩
def cF(ts:ard Nat)(h:Sp Γ ts=some fG)(r:K fG):CK P w0 N ops [] Γ K:=⟨fG,.fin<|Hq h,r⟩
def cY{ts:ard Nat}(h:uX Γ ts fG)(r:K fG):CK P w0 N ops [] Γ K:=⟨fG,.fin h,r⟩
def cPr(h:bI P Γ ⟨some d,op,ty,pos,af,none⟩ s)(hb:fr N d s Γ=true)(r:CK P w0 N ops l ((d,s)::Γ) K):CK P w0 N ops (⟨some d,op,ty,pos,af,none⟩::l) Γ K:=cP h (by rw[hb];exact r)
def apQ(m t:Nat):Bool:=Nat.beq (Nat.mod (Nat.div m<|Nat.pow 2 t) 2) 1
def fm(m:Nat):Ctx->atg Ctx
 |[]=>some []
 |(t,s)::Γ=>match apQ m t with
  |true=>match fm m Γ with
   |some az=>some ((t,s)::az)
   |none=>none
  |false=>fm m Γ
def fm_{m:Nat}:∀{Γ az:Ctx},fm m Γ=some az->∀q∈az,q∈Γ
 |[],_,h,q,hq=>by cases h;exact hq
 |(t,s)::Γ,az,h,q,hq=>by
  unfold fm at h;split at h
  ·split at h
   ·rename_i h1;cases h;rcases bM.1 hq with e|hq
    ·rw[e];simp
    ·exact fC _<|fm_ h1 q hq
   ·cases h
  ·exact fC _<|fm_ h q hq
def gm{m:Nat}(h:fm m Γ=some fG):qj w0 N Γ fG:=fun _ _ _ H hs=>⟨H,hs.weaken<|fm_ h⟩
def ak(m:Nat)(h:fm m Γ=some fG)(r:K fG):CK P w0 N ops [] Γ K:=cG (gm h) ⟨fG,.done,r⟩
def cWm(m:Nat)(h:fm m Γ=some fG)(r:CK P w0 N ops l fG K):CK P w0 N ops l Γ K:=cG (gm h) r
def cD(r:K Γ):CK P w0 N ops [] Γ K:=⟨Γ,.done,r⟩
end
section
variable[D:DR]
variable{P:Program}{w0:aq P}{H0:HV}{N:Nat}{ops:Array Oper}{Γ az fG:Ctx}{l:List Oper}{d:Nat}{op:Op}{ty:TypeId}{pos:String}{af:Array Edge}{K:Ctx->Prop}{Q:Exit->Act->World->Prop}
variable{x y:Operand}{t t':Nat}{T T':TypeId}{τ σ:Ty}{k:IntKind}{m n:Int}{b e:Bool}
variable{off:Nat}{α:Type}{L:ard Ty}{g:atg (Nat×Bool)}
abbrev G(P:arb)(w0:aq P)(N:Nat)(ops:ath Oper)(l:ard Oper)(Γ:Ctx)(K:Ctx->Prop)(d:Nat)(s:bL):Prop:=ck (fr N d s Γ)<|CK P w0 N ops l ((d,s)::Γ) K
def lkT(o:atg bL)(K:ard Ty->Prop):Prop:=match o with
 |some (.I6 l)=>K l
 |_=>False
def akq{o:atg bL}{K:ard Ty->Prop}(h:lkT o K):∃l,o=some (.I6 l)/\K l:=by
 unfold lkT at h;split at h
 ·exact⟨_,rfl,h⟩
 ·exact h.elim
def lkO{α:Type}(o:atg α)(K:α->Prop):Prop:=match o with
 |some x=>K x
 |_=>False
def ann{o:atg α}{K:α->Prop}(h:lkO o K):∃x,o=some x/\K x:=by
 unfold lkO at h;split at h
 ·exact⟨_,rfl,h⟩
 ·exact h.elim
def cM(r:lkV (look Γ t) fun τ=>G P w0 N ops l Γ K d<| .val τ):CK P w0 N ops (⟨some d,.move<| .tmp t,ty,pos,af,none⟩::l) Γ K:=by
 obtain⟨τ,h1,h2⟩:=ahL r;exact cP (HN<| .t h1) h2
def cA(r:lkV (look Γ t) fun τ=>G P w0 N ops l Γ K d<| .val τ):CK P w0 N ops (⟨some d,.assign<| .tmp t,ty,pos,af,none⟩::l) Γ K:=by
 obtain⟨τ,h1,h2⟩:=ahL r;exact cP (aA<| .t h1) h2
def cI(r:G P w0 N ops l Γ K d (.val<|TI k n)):CK P w0 N ops (⟨some d,.assign<| .const<| .int k n,ty,pos,af,none⟩::l) Γ K:=cP (aA .int) r
def cB(r:G P w0 N ops l Γ K d (.val<|aY b)):CK P w0 N ops (⟨some d,.assign<| .const<| .bool b,ty,pos,af,none⟩::l) Γ K:=cP (aA .bool) r
def cN(r:G P w0 N ops l Γ K d (.val<|TI k n)):CK P w0 N ops (⟨some d,.move<| .const<| .int k n,ty,pos,af,none⟩::l) Γ K:=cP (HN .int) r
def cX(r:lkV (look Γ t) fun τ=>G P w0 N ops l Γ K d<| .own T τ):CK P w0 N ops (⟨some d,.box T<| .tmp t,ty,pos,af,none⟩::l) Γ K:=by
 obtain⟨τ,h1,h2⟩:=ahL r;exact cP (ahF<| .t h1) h2
def cE{i:Nat}(r:lkT (look Γ t) fun L=>lkO L[i]? fun τ=>G P w0 N ops l Γ K d<| .val τ):CK P w0 N ops (⟨some d,.extract (.tmp t) i,ty,pos,af,none⟩::l) Γ K:=by
 obtain⟨L,h1,h2⟩:=akq r;obtain⟨τ,h3,h4⟩:=ann h2;exact cP (dW h1 h3) h4
def cZ(r:lkT (look Γ t) fun L=>G P w0 N ops l Γ K d<| .I6 L):CK P w0 N ops (⟨some d,.move<| .tmp t,ty,pos,af,none⟩::l) Γ K:=by
 obtain⟨L,h1,h2⟩:=akq r;exact cP (vP h1) h2
def cQ(r:G P w0 N ops l Γ K d (.same t)):CK P w0 N ops (⟨some d,.move<| .tmp t,ty,pos,af,none⟩::l) Γ K:=cP eI r
def cU(h:look Γ t=some (.own T' τ))(hT:dR P T τ.n τ.agg=true)(r:G P w0 N ops l Γ K d (.val τ)):CK P w0 N ops (⟨some d,.load T<| .tmp t,ty,pos,af,none⟩::l) Γ K:=cP (ae h hT) r
def cR(h:look Γ t=some (.val<|nm τ))(hT:dR P T τ.n τ.agg=true)(r:G P w0 N ops l Γ K d (.val τ)):CK P w0 N ops (⟨some d,.load T<| .tmp t,ty,pos,af,none⟩::l) Γ K:=cP (aU (.t h) hT) r
def lk2(Γ:Ctx)(t:Nat):atg (Nat×Ty):=match look Γ t with
 |some (.ptr t' off)=>match look Γ t' with
  |some (.own _ τ)=>some (off,τ)
  |_=>none
 |_=>none
def anp{Γ:Ctx}{t:Nat}{τ:Ty}(h:lk2 Γ t=some (off,τ)):∃t' T,look Γ t=some (.ptr t' off)/\look Γ t'=some (.own T τ):=by
 unfold lk2 at h;split at h
 ·rename_i h1;split at h
  ·rename_i h2;cases h;exact⟨_,_,h1,h2⟩
  ·cases h
 ·cases h
def pick(L:ard Ty)(i off:Nat):atg Ty:=match Nat.beq (cw<|L.take i) off with
 |true=>L[i]?
 |false=>none
def aba{i:Nat}{σ:Ty}(h:pick L i off=some σ):aP (fJ L) off σ:=by
 unfold pick at h;split at h
 ·rename_i e;exact .agg h<|fB e
 ·cases h
def oP{d:atg Tmp}(i:Nat)(h:lk2 Γ t=some (off,fJ L))(h1:pick L i off=some σ)(hT:dR P T σ.n σ.agg=true):bI P Γ ⟨d,.load T<| .tmp t,ty,pos,af,g⟩ (.val σ):=by
 obtain⟨t',T',k1,k2⟩:=anp h;exact b9 k1 k2 (aba h1) hT
def cV(i:Nat)(h:lk2 Γ t=some (off,fJ L))(h1:pick L i off=some σ)(hT:dR P T σ.n σ.agg=true)(r:G P w0 N ops l Γ K d (.val σ)):CK P w0 N ops (⟨some d,.load T<| .tmp t,ty,pos,af,none⟩::l) Γ K:=cP (oP i h h1 hT) r
def cK{k':Nat}(h:look Γ t=some (.own T' τ))(hf:jf P T k' off=true)(r:G P w0 N ops l Γ K d (.ptr t off)):CK P w0 N ops (⟨some d,.fieldAddr T (.tmp t) k',ty,pos,af,none⟩::l) Γ K:=cP (a8 h hf) r
def cJ{f:α->Ty}{L:ard α}(hT:jX P T=true)(h:look Γ t=some (.val<|TL f L))(r:G P w0 N ops l Γ K d (.val<|TI .i64 L.length)):CK P w0 N ops (⟨some d,.call ⟨.builtin .len,#[.tmp t],#[T]⟩,ty,pos,af,none⟩::l) Γ K:=cP (pW hT<| .t h) r
def cT(h:bJ P T τ)(r:G P w0 N ops l Γ K d (.own T τ)):CK P w0 N ops (⟨some d,.alloc T,ty,pos,af,none⟩::l) Γ K:=cP (gW h) r
def cH{r':Int}(h:look Γ t=some (.val<|TI .i64 m))(h1:aF (m+n)=some r')(r:G P w0 N ops l Γ K d (.val<|TI .i64 r')):CK P w0 N ops (⟨some d,.binOp .add T (.tmp t) (.const<| .int .i64 n) T',ty,pos,af,none⟩::l) Γ K:=cP (bR (.t h) .int h1) r
def cL(h:look Γ t=some (.val<|TI k m))(h':look Γ t'=some (.val<|TI k n))(r:G P w0 N ops l Γ K d (.val<|aY<|decide<|m<n)):CK P w0 N ops (⟨some d,.binOp .lss T (.tmp t) (.tmp t') T',ty,pos,af,none⟩::l) Γ K:=cP (eC (.t h)<| .t h') r
def oX{f:α->Ty}{L:ard α}{d:atg Tmp}{i:Int}{sz:Nat}{y:α}(hT:Ay P T sz=true)(hf:∀z,(f z).n=sz)(hx:look Γ t=some (.val<|TL f L))(hi:look Γ t'=some (.val<|TI k i))(h:bm L i=some y):bI P Γ ⟨d,.indexAddr T (.tmp t)<| .tmp t',ty,pos,af,g⟩ (.val<|nm<|f y):=kS hT hf (.t hx) (.t hi) h
def Pv(Γ:Ctx):ard arc->atg (ard Ty)
 |[]=>some []
 | .tmp t::xs=>match look Γ t,Pv Γ xs with
  |some (.val τ),some l=>some (τ::l)
  |_,_=>none
 | .const (.int k n)::xs=>match Pv Γ xs with
  |some l=>some (TI k n::l)
  |_=>none
 | .const (.bool b)::xs=>match Pv Γ xs with
  |some l=>some (aY b::l)
  |_=>none
 |_=>none
def UF{Γ:Ctx}:∀{xs:ard arc} {l:ard Ty},Pv Γ xs=some l->aJ Γ xs l
 |[],_,h=>by cases h;exact .nil
 | .tmp t::xs,l,h=>by
  unfold Pv at h;split at h
  ·rename_i h1 h2;cases h;exact .cons (.t h1)<|UF h2
  ·cases h
 | .const (.int k n)::xs,l,h=>by
  unfold Pv at h;split at h
  ·rename_i h2;cases h;exact .cons .int<|UF h2
  ·cases h
 | .const (.bool b)::xs,l,h=>by
  unfold Pv at h;split at h
  ·rename_i h2;cases h;exact .cons .bool<|UF h2
  ·cases h
def oC{f:FuncId}{xs:ard arc}{r9:ath aq9}{args:ard Ty}{c6:Yl}{d:atg Tmp}(hf:al P f args c6)(ha:Pv Γ xs=some args):bI P Γ ⟨d,.call ⟨.value<| .func f,xs.toArray,r9⟩,ty,pos,af,g⟩ (aeH c6):=fL hf<|UF ha
def cC{f:FuncId}{xs:ard arc}{r9:ath aq9}{args:ard Ty}{c6:Yl}(hf:al P f args c6)(ha:Pv Γ xs=some args)(r:G P w0 N ops l Γ K d (aeH c6)):CK P w0 N ops (⟨some d,.call ⟨.value<| .func f,xs.toArray,r9⟩,ty,pos,af,none⟩::l) Γ K:=cP (oC hf ha) r
def gV{j dj:Nat}{want:Bool}{c8:Ctx}{s:bL}(hj:(ops[j]?).bind (·.dst)=some dj)(hl:look Γ dj=some (.val<|aY b))(ho:Cp Γ (gd b want) c8)(h:gd b want=true->bI P c8 ⟨some d,op,ty,pos,af,some (j,want)⟩ s)(r:ck (Nat.blt dj N&&fr N d s Γ) (CK P w0 N ops l ((d,.opt (gd b want) s)::Γ) K)):CK P w0 N ops (⟨some d,op,ty,pos,af,some (j,want)⟩::l) Γ K:=by
 obtain⟨hb,az,h1,h2⟩:=Z7 r;rw[bV] at hb;obtain⟨b1,b2,b3⟩:=fr_ hb.2;exact⟨az,.cons (Step.guarded (.v rfl hj hl<|bU hb.1) (opO ho h) rfl b1 b2 b3) h1,h2⟩
def gO{j dj:Nat}{want:Bool}{c8:Ctx}{s:bL}(hj:(ops[j]?).bind (·.dst)=some dj)(hl:look Γ dj=some (.opt e<| .val<|aY b))(ho:Cp Γ (e&&gd b want) c8)(h:(e&&gd b want)=true->bI P c8 ⟨some d,op,ty,pos,af,some (j,want)⟩ s)(r:ck (Nat.blt dj N&&fr N d s Γ) (CK P w0 N ops l ((d,.opt (e&&gd b want) s)::Γ) K)):CK P w0 N ops (⟨some d,op,ty,pos,af,some (j,want)⟩::l) Γ K:=by
 obtain⟨hb,az,h1,h2⟩:=Z7 r;rw[bV] at hb;obtain⟨b1,b2,b3⟩:=fr_ hb.2;exact⟨az,.cons (Step.guarded (.o rfl hj hl<|bU hb.1) (opO ho h) rfl b1 b2 b3) h1,h2⟩
end
section
variable[D:DR]
variable{P:Program}{w0:aq P}{H0:HV}{N:Nat}{ops:Array Oper}{Γ az fG:Ctx}{l:List Oper}{d:Nat}{op:Op}{ty:TypeId}{pos:String}{af:Array Edge}{K:Ctx->Prop}{Q:Exit->Act->World->Prop}
def rS{id:Nat}{y:Code}(r:ck (pb l) (CK P w0 N l.toArray l Γ fun az=>Goal P w0 H0 N y Q az)):Goal P w0 H0 N (.seq (.region id l.toArray false) y) Q Γ:=by
 obtain⟨gq,az,h1,h2⟩:=Z7 r;exact ah<|DU gq h1<|aw h2
def rK{id:Nat}(r:ck (pb l) (CK P w0 N l.toArray l Γ fun az=>lV w0 H0 N (Q .normal) az)):Goal P w0 H0 N (.region id l.toArray false) Q Γ:=by
 obtain⟨gq,az,h1,h2⟩:=Z7 r;exact DU gq h1 h2
structure PK(P:arb)(N:Nat)(ops:ath Oper)(Γ:Ctx)(acc:ard Ctx)(l:ard Oper)(K:ard (ard Nat)->ard Bool->ard Ctx->Prop):Prop where
 w:∃gP gK S,cd P N ops Γ acc l gP gK S/\K gP gK S
end
section
variable[D:DR]
variable{P:Program}{w0:aq P}{H0:HV}{N:Nat}{ops:Array Oper}{Γ az fG:Ctx}{l:List Oper}{d:Nat}{op:Op}{ty:TypeId}{pos:String}{af:Array Edge}{K:Ctx->Prop}{Q:Exit->Act->World->Prop}
variable{acc:List Ctx}{ts:List Nat}{c8:Ctx}{s s' su:bL}{t u:Nat}{o:Oper}{R:List (List Nat)->List Bool->List Ctx->Prop}
def dN(r:R [] [] acc):PK P N ops Γ acc [] R:=⟨_,_,_,.nil,r⟩
def dP(ts:ard Nat)(hs:Sp (acc.flatten++Γ) ts=some c8)(h:bI P c8 ⟨some d,op,ty,pos,af,none⟩ s)(r:ck (Nat.blt d N) (PK P N ops Γ ([(d,s)]::acc) l fun n p S=>R (ts::n) (true::p) S)):PK P N ops Γ acc (⟨some d,op,ty,pos,af,none⟩::l) R:=by
 obtain⟨hb,n,p,S,h1,h2⟩:=Z7 r;exact⟨_,_,S,.cons (Hq hs) h rfl rfl (bU hb) h1,h2⟩
def dV{j dj:Nat}{want b:Bool}{Γj:Ctx}(ts:ard Nat)(hs:Sp (acc.flatten++Γ) ts=some c8)(hj:(ops[j]?).bind (·.dst)=some dj)(hl:look c8 dj=some (.val<|aY b))(ho:Cp c8 (gd b want) Γj)(h:gd b want=true->bI P Γj ⟨some d,op,ty,pos,af,some (j,want)⟩ s)(r:ck (Nat.blt dj N&&Nat.blt d N) (PK P N ops Γ ([(d,.opt (gd b want) s)]::acc) l fun n p S=>R (ts::n) (true::p) S)):PK P N ops Γ acc (⟨some d,op,ty,pos,af,some (j,want)⟩::l) R:=by
 obtain⟨hb,n,p,S,h1,h2⟩:=Z7 r;rw[bV] at hb;exact⟨_,_,S,.guarded (Hq hs) (.v rfl hj hl<|bU hb.1) (opO ho h) rfl (bU hb.2) h1,h2⟩
def dO{j dj:Nat}{want b e:Bool}{Γj:Ctx}(ts:ard Nat)(hs:Sp (acc.flatten++Γ) ts=some c8)(hj:(ops[j]?).bind (·.dst)=some dj)(hl:look c8 dj=some (.opt e<| .val<|aY b))(ho:Cp c8 (e&&gd b want) Γj)(h:(e&&gd b want)=true->bI P Γj ⟨some d,op,ty,pos,af,some (j,want)⟩ s)(r:ck (Nat.blt dj N&&Nat.blt d N) (PK P N ops Γ ([(d,.opt (e&&gd b want) s)]::acc) l fun n p S=>R (ts::n) (true::p) S)):PK P N ops Γ acc (⟨some d,op,ty,pos,af,some (j,want)⟩::l) R:=by
 obtain⟨hb,n,p,S,h1,h2⟩:=Z7 r;rw[bV] at hb;exact⟨_,_,S,.guarded (Hq hs) (.o rfl hj hl<|bU hb.1) (opO ho h) rfl (bU hb.2) h1,h2⟩
def dS(ts:ard Nat)(hs:Sp (acc.flatten++Γ) ts=some c8)(h:Px P N ops c8 o t s)(r:PK P N ops Γ ([(t,s)]::acc) l fun n p S=>R (ts::n) (false::p) S):PK P N ops Γ acc (o::l) R:=by
 obtain⟨n,p,S,h1,h2⟩:=r;exact⟨_,_,S,.store (Hq hs) h h1,h2⟩
def dG(gs ts:ard Nat)(hs:Sp (acc.flatten++Γ) ts=some c8)(h:Py P N ops c8 o t d s)(r:PK P N ops Γ (((d,s)::(t,.gone)::gs.map fun u=>(u,.gone))::acc) l fun n p S=>R (ts::n) (true::p) S):PK P N ops Γ acc (o::l) R:=by
 obtain⟨n,p,S,h1,h2⟩:=r;exact⟨_,_,S,.afM gs (Hq hs) h h1,h2⟩
def dT(ts:ard Nat)(hs:Sp (acc.flatten++Γ) ts=some c8)(h:WD P N ops c8 o t s' d s)(r:PK P N ops Γ ([(d,s),(t,s')]::acc) l fun n p S=>R (ts::n) (true::p) S):PK P N ops Γ acc (o::l) R:=by
 obtain⟨n,p,S,h1,h2⟩:=r;exact⟨_,_,S,.two (Hq hs) h h1,h2⟩
end
section
variable[D:DR]
variable{P:Program}{w0:aq P}{H0:HV}{N:Nat}{ops:Array Oper}{Γ az fG:Ctx}{l:List Oper}{d:Nat}{op:Op}{ty:TypeId}{pos:String}{af:Array Edge}{K:Ctx->Prop}{Q:Exit->Act->World->Prop}
def aac(ops:ard Oper):ard (ard Nat):=ops.foldl (fun av o=>av++[(List.range av.length).filter fun j=>(Cj o).any fun e=>e.on==j||(av.getD e.on []).contains j]) []
def DE(P:arb)(w0:aq P)(N:Nat)(ops:ard Oper)(k:Nat)(Γ:Ctx)(K:Ctx->Prop)(gP:ard (ard Nat))(gK:ard Bool)(S:ard Ctx):Prop:=
 ∃ts CS,(Be ops.toArray (aac ops)&&Pu k (S.reverse.map Ar) gP gK (rB Γ) (aac ops)&&vE ops.toArray k (aac ops))=true/\Sp (S.flatten++Γ) ts=some CS/\CK P w0 N ops.toArray (ops.drop k) CS K
def dE{gP:ard (ard Nat)}{gK:ard Bool}{S:ard Ctx}{k:Nat}{CS:Ctx}(ts:ard Nat)(hs:Sp (S.flatten++Γ) ts=some CS)(hc:(Be l.toArray (aac l)&&Pu k (S.reverse.map Ar) gP gK (rB Γ) (aac l)&&vE l.toArray k (aac l))=true)(r:CK P w0 N l.toArray (l.drop k) CS K):DE P w0 N l k Γ K gP gK S:=⟨ts,CS,hc,hs,r⟩
def gD{id:Nat}(k:Nat)(hm:P.follows .mixedOrders=true)(r:ck (pb l) (PK P N l.toArray Γ [] (l.take k)<|DE P w0 N l k Γ fun az=>lV w0 H0 N (Q .normal) az)):Goal P w0 H0 N (.region id l.toArray true) Q Γ:=by
 obtain⟨gq,n,p,S,h1,ts,CS,hc,hs,az,h2,h3⟩:=Z7 r;exact R7 (k:=k) gq _ _ _ _ _ hm hc h1 rfl rfl (Hq hs) h2 h3
def gE{id:Nat}{y:Code}(k:Nat)(hm:P.follows .mixedOrders=true)(r:ck (pb l) (PK P N l.toArray Γ [] (l.take k)<|DE P w0 N l k Γ fun az=>Goal P w0 H0 N y Q az)):Goal P w0 H0 N (.seq (.region id l.toArray true) y) Q Γ:=
 ah (gD k hm (by
  obtain⟨gq,r⟩:=Z7 r;rw[gq];obtain⟨n,p,S,h1,ts,CS,hc,hs,az,h2,h3⟩:=r;exact⟨n,p,S,h1,ts,CS,hc,hs,az,h2,aw h3⟩))
end
section
variable[D:DR]
variable{P:Program}{w0:aq P}{H0:HV}{N:Nat}{ops:Array Oper}{Γ az fG:Ctx}{l:List Oper}{d:Nat}{op:Op}{ty:TypeId}{pos:String}{af:Array Edge}{K:Ctx->Prop}{Q:Exit->Act->World->Prop}
variable{x y:Operand}{t t':Nat}{T T':TypeId}{τ σ:Ty}{k:IntKind}{m n:Int}{b e:Bool}{g:Option (Nat×Bool)}{dd:Option Tmp}
variable{sz:Nat}{ps:ard (Nat×arc)}{l':ard Ty}
def aT(h:look Γ t=some (.val τ)):Arg Γ (.tmp t) τ:= .t h
def aI:Arg Γ (.const<| .int k n) (TI k n):= .int
def aB:Arg Γ (.const<| .bool b) (aY b):= .bool
def sS(ts:ard Nat)(h:Sp Γ ts=some az):uX Γ ts az:=Hq h
def oM(h:look Γ t=some (.val τ)):bI P Γ ⟨dd,.move<| .tmp t,ty,pos,af,g⟩ (.val τ):=HN<| .t h
def oA(h:look Γ t=some (.val τ)):bI P Γ ⟨dd,.assign<| .tmp t,ty,pos,af,g⟩ (.val τ):=aA<| .t h
def iO{i:Int}{len:Nat}(h:look Γ t=some (.own T' τ))(hT:yP P T len sz=true)(hc:(decide (0<=i)&&decide (i<(len:Int)))=true):bI P Γ ⟨dd,.indexAddr T (.tmp t)<| .const<| .int k i,ty,pos,af,g⟩ (.ptr t<|i.toNat*sz):=by
 rw[bV,wG,wG] at hc;exact HO h hT .int hc.1 hc.2
def PZ(Γ:Ctx):ard (Nat×arc)->ard Ty->atg (ard Ty)
 |[],l=>some l
 |(i,x)::ps,l=>match Pv Γ [x],l[i]? with
  |some [σ],some τ=>match Nat.beq σ.n τ.n with
   |true=>PZ Γ ps<|l.set i σ
   |false=>none
  |_,_=>none
def pV{Γ:Ctx}:∀{ps:ard (Nat×arc)} {l l':ard Ty},PZ Γ ps l=some l'->iy P Γ ps l l'
 |[],_,_,h=>by cases h;exact .nil
 |(i,x)::ps,l,l',h=>by
  unfold PZ at h;split at h
  ·rename_i σ τ h1 h2;split at h
   ·rename_i h3;cases UF h1 with
    |cons ha _=>exact .cons ha h2 (fB h3)<|pV h
   ·cases h
  ·cases h
def bB{l:ard Ty}(hz:bJ P T (fJ l))(hT:iX P T (p5 l)=true)(hp:PZ Γ ps l=some l'):bI P Γ ⟨dd,.build T ps.toArray,ty,pos,af,g⟩ (.val<|fJ l'):=DB hz hT<|pV hp
def bA{n:Nat}{l:ard Ty}(hz:bJ P T (fJ l))(hT:yP P T n sz=true)(hu:(l.all fun τ=>Nat.beq τ.n sz)=true)(hp:PZ Γ ps l=some l'):bI P Γ ⟨dd,.build T ps.toArray,ty,pos,af,g⟩ (.val<|fJ l'):=
 vR hz hT (fun τ h=>fB<|db.1 hu τ h) (pV hp)
def bS{E:aq9}{n:Nat}(hz:bJ P E τ)(hT:oU P T E sz=true)(hp:PZ Γ ps (List.replicate n τ)=some l')(hc:(Nat.beq τ.n sz&&(Nat.blt 0 (n*sz)&&(Nat.ble (n*sz) 16777216&&Nat.beq l'.length n)))=true):bI P Γ ⟨dd,.buildSlice T n ps.toArray,ty,pos,af,g⟩ (.val<|I8 l'):=by
 simp only[bV] at hc;exact Ae hz hT (fB hc.1) hc.2.1 hc.2.2.1 (pV hp)<|fB hc.2.2.2
def cs(ht:look Γ t=some (.own T' τ))(hx:look Γ t'=some (.val σ))(hn:σ.n=τ.n)(hT:dR P T σ.n σ.agg=true)(r:CK P w0 N ops l ((t,.own T' σ)::bN t Γ) K):CK P w0 N ops (⟨none,.store T (.tmp t)<| .tmp t',ty,pos,af,none⟩::l) Γ K:=cS (sU ht (.t hx) hn hT) r
def ds(ht:look Γ t=some (.own T' τ))(hx:look Γ t'=some (.val σ))(hn:σ.n=τ.n)(hT:dR P T σ.n σ.agg=true):Px P N ops Γ ⟨none,.store T (.tmp t)<| .tmp t',ty,pos,af,none⟩ t (.own T' σ):=O9 ht (.t hx) hn hT
def ov(t:Nat){s:bL}(h:look Γ t=some s)(r:Cp Γ e az):Cp Γ e ((t,s)::az):= .v h r
def oo(t:Nat){s:bL}{c:Bool}(h:look Γ t=some (.opt c s))(k:e=true->c=true)(r:Cp Γ e az):Cp Γ e ((t,s)::az):= .o h k r
def on:Cp Γ e []:= .nil
end
section
variable[D:DR]
variable{P:Program}{w0:aq P}{H0:HV}{N:Nat}{ops:Array Oper}{Γ az fG:Ctx}{l:List Oper}{d:Nat}{op:Op}{ty:TypeId}{pos:String}{af:Array Edge}{K:Ctx->Prop}{Q:Exit->Act->World->Prop}
variable{α β γ δ ε ζ ρ:Type}{r:ρ}{e:Option α}{f:α->Option β}{g:α->β->Option γ}{h:α->β->γ->Option δ}{i:α->β->γ->δ->Option ε}{j:α->β->γ->δ->ε->Option ζ}
def b2{K:α->β->atg ρ}(q:(bd e fun x=>bd (f x)<|K x)=some r):∃x,e=some x/\∃y,f x=some y/\K x y=some r:=by
 obtain⟨x,h1,q⟩:=ab q;obtain⟨y,h2,q⟩:=ab q;exact⟨x,h1,y,h2,q⟩
def b3{K:α->β->γ->atg ρ}(q:(bd e fun x=>bd (f x) fun y=>bd (g x y)<|K x y)=some r):∃x,e=some x/\∃y,f x=some y/\∃z,g x y=some z/\K x y z=some r:=by
 obtain⟨x,h1,y,h2,q⟩:=b2 q;obtain⟨z,h3,q⟩:=ab q;exact⟨x,h1,y,h2,z,h3,q⟩
def b4{K:α->β->γ->δ->atg ρ}(q:(bd e fun x=>bd (f x) fun y=>bd (g x y) fun z=>bd (h x y z)<|K x y z)=some r):∃x,e=some x/\∃y,f x=some y/\∃z,g x y=some z/\∃u,h x y z=some u/\K x y z u=some r:=by
 obtain⟨x,h1,y,h2,z,h3,q⟩:=b3 q;obtain⟨u,h4,q⟩:=ab q;exact⟨x,h1,y,h2,z,h3,u,h4,q⟩
def b5{K:α->β->γ->δ->ε->atg ρ}(q:(bd e fun x=>bd (f x) fun y=>bd (g x y) fun z=>bd (h x y z) fun u=>bd (i x y z u)<|K x y z u)=some r):∃x,e=some x/\∃y,f x=some y/\∃z,g x y=some z/\∃u,h x y z=some u/\∃v,i x y z u=some v/\K x y z u v=some r:=by
 obtain⟨x,h1,y,h2,z,h3,u,h4,q⟩:=b4 q;obtain⟨v,h5,q⟩:=ab q;exact⟨x,h1,y,h2,z,h3,u,h4,v,h5,q⟩
def b6{K:α->β->γ->δ->ε->ζ->atg ρ}(q:(bd e fun x=>bd (f x) fun y=>bd (g x y) fun z=>bd (h x y z) fun u=>bd (i x y z u) fun v=>bd (j x y z u v)<|K x y z u v)=some r):∃x,e=some x/\∃y,f x=some y/\∃z,g x y=some z/\∃u,h x y z=some u/\∃v,i x y z u=some v/\∃w,j x y z u v=some w/\K x y z u v w=some r:=by
 obtain⟨x,h1,y,h2,z,h3,u,h4,v,h5,q⟩:=b5 q;obtain⟨w,h6,q⟩:=ab q;exact⟨x,h1,y,h2,z,h3,u,h4,v,h5,w,h6,q⟩
end
section
variable[D:DR]
variable{P:Program}{w0:aq P}{H0:HV}{N:Nat}{ops:Array Oper}{Γ az fG:Ctx}{l:List Oper}{d:Nat}{op:Op}{ty:TypeId}{pos:String}{af:Array Edge}{K:Ctx->Prop}{Q:Exit->Act->World->Prop}
variable{t:Nat}{x y:Code}{b:Bool}{ρ α:Type}{r:ρ}
def gc{X Y:atg ρ}(hl:look Γ t=some (.val<|aY b))(hm:cond b X Y=some r)(hx:b=true->X=some r->Goal P w0 H0 N x Q Γ)(hy:b=false->Y=some r->Goal P w0 H0 N y Q Γ):Goal P w0 H0 N (.cond (.tmp t) x y) Q Γ:=
 rY hl (fun h=>hx h<|ai2 hm h) (fun h=>hy h<|ai3 hm h)
def cm{Mm:α->Ctx}{k:α->atg ρ}{i:α}(hm:k i=some r)(h:Sp Γ ((Mm i).map (·.1))=some (Mm i)):lV w0 H0 N (fun a w=>Mid w0 H0 N Mm k r a w) Γ:=amd hm<|Hq h
def gl{σ:Type}(c8:σ->Ctx){n:Nat}{B:(σ->atg ρ)->σ->atg ρ}{s0:σ}{c:Code}(hm:lp n B s0=some r)(h0:Sp Γ ((c8 s0).map (·.1))=some (c8 s0))
  (round:∀(k:σ->atg ρ) (s:σ),B k s=some r->Goal P w0 H0 N c (Exit.then (Mid w0 H0 N c8 k r) Q) (c8 s)):Goal P w0 H0 N (.loop c) Q Γ:=acJ c8 hm (Hq h0) round
end
section
variable[D:DR]
variable{P:Program}{w0:aq P}{H0:HV}{N:Nat}{ops:Array Oper}{Γ az fG:Ctx}{l:List Oper}{d:Nat}{op:Op}{ty:TypeId}{pos:String}{af:Array Edge}{K:Ctx->Prop}{Q:Exit->Act->World->Prop}
variable{f:FuncId}{fn:Func}{t t' T:Nat}{T':TypeId}{τ Fl σ σ':Ty}{Q:Exit->Act->World->Prop}
def c7{c:Code}{args:ard Ty}{c6:Yl}{N:Nat}(hf:P.funcs[f]? =some fn)(hb:fn.body=some c)(hN:fn.ntmps=N)(hc:(dY P f&&Nat.ble args.length N)=true)
  (h:∀w0 H0,Goal P (aq.call P w0) H0 N c (GL P fn (aq.call P w0) H0 c6)<|kV 0 args):al P f args c6:=by
 rw[bV] at hc;exact Vh hf hb hN (gj hc.2) hc.1 h
def r1(h:(((w0.X,w0.QS,w0.ds,w0.rd),fn.results),look Γ t)=(((UR,false,[],none),[.tmp t].toArray),some<| .val τ)):lV w0 H0 N (fun a w=>GL P fn w0 H0 (.vs [τ]) .ret a w) Γ:=by
 simp only[LL] at h;exact fX (by simp only[h]) h.1.2<| .tmp h.2 rfl .nil
def r2(h:(((w0.X,w0.QS,w0.ds,w0.rd),fn.results),look Γ t,look Γ t')=(((UR,false,[],none),[.tmp t,.tmp t'].toArray),some<| .val τ,some<| .val σ)):lV w0 H0 N (fun a w=>GL P fn w0 H0 (.vs [τ,σ]) .ret a w) Γ:=by
 simp only[LL] at h;exact fX (by simp only[h]) h.1.2<| .tmp h.2.1 rfl<| .tmp h.2.2 rfl .nil
def q1(h:(((w0.X,w0.QS,w0.ds,w0.rd),fn.results),look Γ t)=(((UR,false,[],none),[.cell t T].toArray),some<| .own T' τ))(hT:dR P T τ.n τ.agg=true):lV w0 H0 N (fun a w=>GL P fn w0 H0 (.vs [τ]) .ret a w) Γ:=by
 simp only[LL] at h;exact fX (by simp only[h]) h.1.2<| .cell h.2 (sB hT) rfl .nil
end
section
variable[D:DR]
variable{P:Program}{w0:aq P}{H0:HV}{N:Nat}{ops:Array Oper}{Γ az fG:Ctx}{l:List Oper}{d:Nat}{op:Op}{ty:TypeId}{pos:String}{af:Array Edge}{K:Ctx->Prop}{Q:Exit->Act->World->Prop}
variable{t d' k' off:Nat}{T T' T2 O8:TypeId}{σ:Ty}{L:List Ty}{pos':String}{Pw:Array Edge}{acc:List Ctx}{R:List (List Nat)->List Bool->List Ctx->Prop}
def Ij{Γ:Ctx}{t:Nat}{s:bL}:look ((t,s)::Γ) t=some s:=by simp[look]
def RE{Γ:Ctx}{d t:Nat}{s s':bL}(h:Nat.beq d t=false)(k:look Γ t=some s'):look ((d,s)::Γ) t=some s':=by
 unfold look;rw[h];exact k
def jg(i:Nat)(h:look Γ t=some (.own T'<|fJ L))(hf:jf P T k' off=true)(h1:pick L i off=some σ)(hT:dR P T2 σ.n σ.agg=true)(r:ck (fr N d (.ptr t off) Γ&&(!Nat.beq d t&&fr N d' (.val σ) ((d,.ptr t off)::Γ))) (CK P w0 N ops l ((d',.val σ)::(d,.ptr t off)::Γ) K)):
  CK P w0 N ops (⟨some d,.fieldAddr T (.tmp t) k',ty,pos,af,none⟩::⟨some d',.load T2<| .tmp d,O8,pos',Pw,none⟩::l) Γ K:=by
 obtain⟨hb,hk⟩:=Z7 r;simp only[bV,gY] at hb;refine cP (a8 h hf) ?_;rw[hb.1];refine cP (b9 Ij (RE hb.2.1 h) (aba h1) hT) ?_;rw[hb.2.2];exact hk
def dQ(i:Nat)(h:look (acc.flatten++Γ) t=some (.own T'<|fJ L))(hf:jf P T k' off=true)(h1:pick L i off=some σ)(hT:dR P T2 σ.n σ.agg=true)(r:ck (Nat.blt d N&&(Nat.blt d' N&& !Nat.beq d t)) (PK P N ops Γ ([(d',.val σ)]::[(d,.ptr t off)]::acc) l fun n p S=>R ([t]::[d,t]::n) (true::true::p) S)):
  PK P N ops Γ acc (⟨some d,.fieldAddr T (.tmp t) k',ty,pos,af,none⟩::⟨some d',.load T2<| .tmp d,O8,pos',Pw,none⟩::l) R:=by
 obtain⟨hb,n,p,S,k1,k2⟩:=Z7 r;simp only[bV,gY] at hb;have e:look (([(d,bL.ptr t off)]::acc).flatten++Γ) d=some (.ptr t off):=by simpa using Ij
 have e':look (([(d,bL.ptr t off)]::acc).flatten++Γ) t=some (.own T'<|fJ L):=by simpa using RE hb.2.2 h
 exact⟨_,_,S,.cons (.cons h .nil) (a8 Ij hf) rfl rfl (bU hb.1)<| .cons (.cons e<| .cons e' .nil) (b9 Ij (RE hb.2.2 Ij) (aba h1) hT) rfl rfl (bU hb.2.1) k1,k2⟩
end
section
variable[D:DR]
variable{P:Program}{w0:aq P}{H0:HV}{N:Nat}{ops:Array Oper}{Γ az fG:Ctx}{l:List Oper}{d:Nat}{op:Op}{ty:TypeId}{pos:String}{af:Array Edge}{K:Ctx->Prop}{Q:Exit->Act->World->Prop}
variable{ρ:Type}{r:ρ}
def aez{A B:Ctx}{ts us:ard Nat}(h:uX Γ ts A)(k:uX Γ us B):uX Γ (ts++us) (A++B):=by
 induction h with
 |nil=>exact k
 |cons h _ ih=>exact .cons h ih
def jj{σ:Type}(ks:ard Nat){Γ0:Ctx}(hk:Sp Γ ks=some Γ0)(c8:σ->Ctx){n:Nat}{B:(σ->atg ρ)->σ->atg ρ}{s0:σ}{c:Code}(hm:lp n B s0=some r)(h0:Sp Γ ((c8 s0).map (·.1))=some (c8 s0))
  (round:∀(k:σ->atg ρ) (s:σ),B k s=some r->Goal P w0 H0 N c (Exit.then (Mid w0 H0 N (fun s=>c8 s++Γ0) k r) Q) (c8 s++Γ0)):Goal P w0 H0 N (.loop c) Q Γ:=acJ (fun s=>c8 s++Γ0) hm (aez (Hq h0)<|Hq hk) round
def uU{α:Type}(ks:ard Nat){Γ0:Ctx}(hk:Sp Γ ks=some Γ0)(Mm:α->Ctx){K:α->atg ρ}{E:(α->atg ρ)->atg ρ}{x:Code}(hm:jn K E=some r)
  (h:∀k,E k=some r->Goal P w0 H0 N x (Exit.then (Mid w0 H0 N (fun s=>Mm s++Γ0) k r) Q) Γ)(kk:∀i,K i=some r->lV w0 H0 N (Q .normal) (Mm i++Γ0)):Goal P w0 H0 N x Q Γ:=DV (fun s=>Mm s++Γ0) hm h kk
end
section
variable{α:Type}{c:α->α->Option Int}
def pH{α ρ:Type}{e:atg α}{K:α->atg ρ}{r:ρ}(h:bd e K=some r):∃x,e=some x/\K x=some r:=by
 cases e with
 |none=>cases h
 |some x=>exact⟨x,rfl,h⟩
def EP:∀{l r:ard α} {x:α},T9 c x l=some r->r.Perm (x::l)
 |[],r,x,h=>by cases h;exact .refl _
 |y::l,r,x,h=>by
  obtain⟨k,_,h⟩:=pH h;cases hb:decide (k<0) with
  |true=>
   rw[hb] at h;obtain⟨r',hr,h⟩:=pH (K:=fun r=>some (y::r)) h;cases h;exact((EP hr).cons y).trans<| .swap x y l
  |false=>
   rw[hb] at h;have h:some (x::y::l)=some r:=h;cases h;exact .refl _
def Qh:∀(l:ard α) (s r:ard α),Kw l (fun next x s=>bd (T9 c x s) next) s (fun s=>some s.reverse)=some r->r.Perm (s++l)
 |[],s,r,h=>by
  have h:some s.reverse=some r:=h;cases h;simpa using s.reverse_perm
 |x::l,s,r,h=>by
  obtain⟨s',hs,h⟩:=pH h;refine(Qh l s' r h).trans ?_;refine((EP hs).append_right l).trans ?_;exact List.perm_middle.symm
def Kx{l r:ard α}(h:VV c l=some r):r.Perm l:=by
 simpa using Qh l [] r h
end
section
variable{α:Type}[DecidableEq α]{c:α×α->Option Int}
variable{s:ard α}
def Qw:∀{l:ard α} {x:α},af0 c x l=true->∀y∈l,x=y\/∃i j,c (x,y)=some i/\c (y,x)=some j/\i<0/\0<=j
 |[],_,_,y,hy=>by cases hy
 |z::l,x,h,y,hy=>by
  unfold af0 at h;rw[bV] at h;rcases bM.1 hy with e|hy
  ·subst e;cases hd:decide (x=y) with
   |true=>exact .inl<|bf hd
   |false=>
    rw[hd] at h;refine .inr ?_;have h:=h.1;simp only[fU] at h;split at h
    ·rename_i i j e1 e2;rw[bV,jJ,jJ] at h;exact⟨i,j,e1,e2,h.1,h.2⟩
    ·cases h
  ·exact Qw h.2 y hy
def GI:∀{s:ard α},IZ c s=true->(∀x∈s,∃i,c (x,x)=some i/\0<=i)/\s.Pairwise fun x y=>x=y\/∃i j,c (x,y)=some i/\c (y,x)=some j/\i<0/\0<=j
 |[],_=>⟨fun x h=>(by cases h),.nil⟩
 |x::s,h=>by
  unfold IZ at h;rw[bV,bV] at h;obtain⟨h1,h2,h3⟩:=h;obtain⟨k1,k2⟩:=GI h3;refine⟨fun y hy=>?_,.cons (Qw h2) k2⟩;rcases bM.1 hy with e|hy
  ·subst e;split at h1
   ·rename_i i e;exact⟨i,e,bf h1⟩
   ·cases h1
  ·exact k1 y hy
def RU{x:α}(h:x∈s):∃hl:s.idxOf x<s.length,s[s.idxOf x]=x:=
 ⟨List.idxOf_lt_length_iff.2 h,List.getElem_idxOf _⟩
def HE(h:IZ c s=true){x y:α}(hx:x∈s)(hy:y∈s){v:Int}(hv:c (x,y)=some v):v<0↔s.idxOf x<s.idxOf y:=by
 obtain⟨k1,k2⟩:=GI h;obtain⟨lx,ex⟩:=RU hx;obtain⟨ly,ey⟩:=RU hy;have pw:=L7.1 k2;rcases Nat.lt_trichotomy (s.idxOf x) (s.idxOf y) with hlt|heq|hgt
 ·have:=pw _ _ lx ly hlt;rw[ex,ey] at this;rcases this with e|⟨i,j,e1,e2,h1,h2⟩
  ·subst e;omega
  ·rw[hv] at e1;cases e1;exact⟨fun _=>hlt,fun _=>h1⟩
 ·have:x=y:=by rw[<-ex,<-ey];congr 1
  subst this;obtain⟨i,e,hi⟩:=k1 x hx;rw[hv] at e;cases e;omega
 ·have:=pw _ _ ly lx hgt;rw[ex,ey] at this;rcases this with e|⟨i,j,e1,e2,h1,h2⟩
  ·subst e;omega
  ·rw[hv] at e2;cases e2;omega
def S3(h:IZ c s=true):s.Pairwise fun x y=>s.idxOf x<=s.idxOf y:=by
 obtain⟨k1,k2⟩:=GI h;refine L7.2 fun i j hi hj Sv=>?_
 rcases L7.1 k2 i j hi hj Sv with e|⟨a,b,e1,e2,h1,h2⟩
 ·rw[e];exact bC _
 ·have:=(HE h (qz hi) (qz hj) e1).1 h1;omega
def PN{r:ard α}(h:IZ c s=true)(hp:r.Perm s)(hr:r.Pairwise fun x y=>s.idxOf x<=s.idxOf y):r=s:=by
 refine List.Perm.eq_of_pairwise (le:=fun x y=>s.idxOf x<=s.idxOf y) ?_ hr (S3 h) hp;intro a b ha hb h1 h2;obtain⟨la,ea⟩:=RU<|hp.mem_iff.1 ha
 obtain⟨lb,eb⟩:=RU hb;have e:s.idxOf a=s.idxOf b:=by omega
 rw[<-ea,<-eb]
 congr 1
def vM{l:ard α}(h:gU l c=some s):s.Perm l/\IZ c s=true/\(∀x∈l,∀y∈l,∃v,c (x,y)=some v)/\l.length<4611686018427387904:=by
 obtain⟨s',hs,h⟩:=pH h;unfold yW at h;cases hb:Nat.blt l.length 4611686018427387904&&(totB c l&&IZ c s') with
 |false=>rw[hb] at h;cases h
 |true=>
  rw[hb] at h;cases h;rw[bV,bV] at hb;refine⟨Kx hs,hb.2.2,fun x hx y hy=>?_,gj hb.1⟩;have:=db.1 hb.2.1 x hx;have:=db.1 this y hy;exact Option.isSome_iff_exists.1 this
end
def O{α:Sort _}{a:α}:a=a:=rfl
def dI{α:Type}{f:α->Ty}{sz:Nat}(h:(fun z=>(f z).n)=fun _=>sz):∀z,(f z).n=sz:=congrFun h
abbrev TiZ(n:Int):Ty:=TI .i64 n
abbrev adx:=List UInt8
abbrev ate:=adx×adx×adx
end Trn
