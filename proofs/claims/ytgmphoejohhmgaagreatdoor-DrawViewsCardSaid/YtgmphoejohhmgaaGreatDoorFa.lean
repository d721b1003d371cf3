/-
  Part of the proof of DrawViews.
-/
import Derived.Test.YtgmphoejohhmgaaGreatDoorEd
import Derived.Test.YtgmphoejohhmgaaGreatDoorProg
set_option maxRecDepth 100000
set_option maxHeartbeats 20000000
set_option linter.all false
open Go Go.RowKit Go.Proofs Go.Proofs.Tryz
namespace Trn
abbrev ap3:Value:= .int .i64 0
abbrev ap2:Value:= .slice none 0 0
abbrev ap1:Value:= .string ⟨#[]⟩
def mixed:prog.follows .mixedOrders=true:=by kernel_rfl
@[reducible] def aW(x:adx×adx×adx):Ty:=fJ [TS x.1,TS x.2.1,TS x.2.2]
@[reducible] def cz(x:ate×ate×ate):Ty:=fJ [aW x.1,aW x.2.1,aW x.2.2]
@[reducible] def zP(x:Int×Int×Int):Ty:=fJ [TiZ x.1,TiZ x.2.1,TiZ x.2.2]
@[reducible] def bz(x:(Int×Int×Int)×adx):Ty:=fJ [zP x.1,TS x.2]
@[reducible] def bh(x:Bool×ard Int):Ty:=fJ [aY x.1,(TL TiZ) x.2]
@[reducible] def ar(x:Rat×Rat×Rat):Ty:=fJ [aX x.1,aX x.2.1,aX x.2.2]
@[reducible] def Cq(x:(Int×ard Int)×(Int×ard Int)):Ty:=fJ [aZ x.1,aZ x.2]
@[reducible] def Ec(x:V3×V3×V3×V3):Ty:=fJ [ar x.1,ar x.2.1,ar x.2.2.1,ar x.2.2.2]
@[reducible] def aR(x:Rat×Rat):Ty:=fJ [aX x.1,aX x.2]
@[reducible] def eh(x:adx×adx):Ty:=fJ [TS x.1,TS x.2]
@[reducible] def bg(x:V3×Rat):Ty:=fJ [ar x.1,aX x.2]
@[reducible] def aK(x:(V3×Rat)×(ard V3)):Ty:=fJ [bg x.1,(TL ar) x.2]
@[reducible] def Yo(x:Int×Int):Ty:=fJ [TiZ x.1,TiZ x.2]
@[reducible] def I3(x:V3×V3):Ty:=fJ [ar x.1,ar x.2]
@[reducible] def dH(x:(ard (ard (V3×Rat)))×(ard (ard V3))×(ard (V3×Rat))):Ty:=fJ [(TL (TL bg)) x.1,(TL (TL ar)) x.2.1,(TL bg) x.2.2]
@[reducible] def bT(x:V3×V3):Ty:=fJ [ar x.1,ar x.2]
@[reducible] def mx(x:V3×V3):Ty:=fJ [ar x.1,ar x.2]
@[reducible] def aS(x:Rat×Rat):Ty:=fJ [aX x.1,aX x.2]
@[reducible] def ia(x:ate×ate):Ty:=fJ [aW x.1,aW x.2]
@[reducible] def Cr(x:Rat×Rat×Rat):Ty:=fJ [aX x.1,aX x.2.1,aX x.2.2]
@[reducible] def ig(x:(Rat×Rat)×(Rat×Rat)):Ty:=fJ [aR x.1,aR x.2]
@[reducible] def bK(x:(adx×adx)×(adx×adx)):Ty:=fJ [eh x.1,eh x.2]
@[reducible] def I4(x:(ard (((adx×adx)×(adx×adx))×((Rat×Rat)×(Rat×Rat))))×(ard (((adx×adx)×(adx×adx))×(ard (Rat×Rat))))×(ard (((adx×adx)×(adx×adx))×(ard (Rat×Rat))))):Ty:=fJ [(TMp bK ig) x.1,(TMp bK (TL aS)) x.2.1,(TMp bK (TL aS)) x.2.2]
@[reducible] def gJ(x:(Rat×Rat)×(Rat×Rat)×Bool):Ty:=fJ [aR x.1,aR x.2.1,aY x.2.2]
@[reducible] def gn(x:(adx×adx)×(adx×adx)×Bool):Ty:=fJ [eh x.1,eh x.2.1,aY x.2.2]
@[reducible] def pK(x:ate×ate):Ty:=fJ [aW x.1,aW x.2]
@[reducible] def zO(x:ate×ate×ate×ate):Ty:=fJ [aW x.1,aW x.2.1,aW x.2.2.1,aW x.2.2.2]
@[reducible] def pJ(x:V3×V3×V3×V3):Ty:=fJ [ar x.1,ar x.2.1,ar x.2.2.1,ar x.2.2.2]
@[reducible] def UN(x:V3×V3×V3):Ty:=fJ [ar x.1,ar x.2.1,ar x.2.2]
@[reducible] def uY(x:V3×V3):Ty:=fJ [ar x.1,ar x.2]
def As:jX prog 43=true:=by kernel_rfl
def Hs:Ay prog 43 3=true:=by kernel_rfl
def jC:yP prog 24 3 1=true:=by kernel_rfl
def X:dR prog 22 1 false=true:=by kernel_rfl
def IF:isStr prog 22=true:=by kernel_rfl
def ET:jf prog 26 0 0=true:=by kernel_rfl
def B:dR prog 24 3 true=true:=by kernel_rfl
def zK:jf prog 26 1 3=true:=by kernel_rfl
def zJ:jf prog 26 2 6=true:=by kernel_rfl
def jR:bJ prog 24 (aW ([],[],[])):=a7 (.agg #[ap1,ap1,ap1]) (by kernel_rfl) (fun _=>⟨_,rfl,⟨ap1,[ap1,ap1],rfl,rfl,⟨ap1,[ap1],rfl,rfl,⟨ap1,[],rfl,rfl,rfl⟩⟩⟩⟩)
def Oy:oU prog 43 24 3=true:=by kernel_rfl
def pN:bJ prog 114 (bz ((0,0,0),[])):=a7 (.agg #[ap3,ap3,ap3,ap1]) (by kernel_rfl) (fun _=>⟨_,rfl,⟨(.agg #[ap3,ap3,ap3]),[ap1],rfl,⟨_,rfl,⟨ap3,[ap3,ap3],rfl,rfl,⟨ap3,[ap3],rfl,rfl,⟨ap3,[],rfl,rfl,rfl⟩⟩⟩⟩,⟨ap1,[],rfl,rfl,rfl⟩⟩⟩)
def QB:bJ prog 112 (zP (0,0,0)):=a7 (.agg #[ap3,ap3,ap3]) (by kernel_rfl) (fun _=>⟨_,rfl,⟨ap3,[ap3,ap3],rfl,rfl,⟨ap3,[ap3],rfl,rfl,⟨ap3,[],rfl,rfl,rfl⟩⟩⟩⟩)
def sc:yP prog 112 3 1=true:=by kernel_rfl
def Ln:iX prog 114 [3,1]=true:=by kernel_rfl
def lO:dR prog 114 4 true=true:=by kernel_rfl
def ami:oU prog 45 114 4=true:=by kernel_rfl
def dF:jX prog 104=true:=by kernel_rfl
def eT:Ay prog 104 1=true:=by kernel_rfl
def C:dR prog 3 1 false=true:=by kernel_rfl
def j3:bJ prog 185 (bh (false,[])):=a7 (.agg #[.bool false,ap2]) (by kernel_rfl) (fun _=>⟨_,rfl,⟨(.bool false),[ap2],rfl,rfl,⟨ap2,[],rfl,zTL,rfl⟩⟩⟩)
def aeq:iX prog 185 [1,1]=true:=by kernel_rfl
def eF:dR prog 185 2 true=true:=by kernel_rfl
def oW:bJ prog 3 (TiZ 0):=a7 ap3 (by kernel_rfl) (fun _=>rfl)
def rZ:oU prog 104 3 1=true:=by kernel_rfl
def GH:qe prog 104 3 1 8=true:=by kernel_rfl
def U:isStr prog 9=true:=by kernel_rfl
def iq:jf prog 185 1 1=true:=by kernel_rfl
def lY:dR prog 104 1 false=true:=by kernel_rfl
def pC:jf prog 185 0 0=true:=by kernel_rfl
def xD:dR prog 4 1 false=true:=by kernel_rfl
def zR:bJ prog 26 (cz (([],[],[]),([],[],[]),([],[],[]))):=a7 (.agg #[ap1,ap1,ap1,ap1,ap1,ap1,ap1,ap1,ap1]) (by kernel_rfl) (fun _=>⟨_,rfl,⟨(.agg #[ap1,ap1,ap1]),[ap1,ap1,ap1,ap1,ap1,ap1],rfl,⟨_,rfl,⟨ap1,[ap1,ap1],rfl,rfl,⟨ap1,[ap1],rfl,rfl,⟨ap1,[],rfl,rfl,rfl⟩⟩⟩⟩,⟨(.agg #[ap1,ap1,ap1]),[ap1,ap1,ap1],rfl,⟨_,rfl,⟨ap1,[ap1,ap1],rfl,rfl,⟨ap1,[ap1],rfl,rfl,⟨ap1,[],rfl,rfl,rfl⟩⟩⟩⟩,⟨(.agg #[ap1,ap1,ap1]),[],rfl,⟨_,rfl,⟨ap1,[ap1,ap1],rfl,rfl,⟨ap1,[ap1],rfl,rfl,⟨ap1,[],rfl,rfl,rfl⟩⟩⟩⟩,rfl⟩⟩⟩⟩)
def M5:iX prog 26 [3,3,3]=true:=by kernel_rfl
def kv:dR prog 26 9 true=true:=by kernel_rfl
def gv:bJ prog 85 (aZ (0,[])):=a7 (.agg #[ap3,ap2]) (by kernel_rfl) (fun _=>⟨_,rfl,⟨ap3,[ap2],rfl,rfl,⟨ap2,[],rfl,zTN,rfl⟩⟩⟩)
def ur:iX prog 85 [1,1]=true:=by kernel_rfl
def m:dR prog 85 2 true=true:=by kernel_rfl
def Ky:T8 prog 3 .i64=true:=by kernel_rfl
def EO:T8 prog 332 .u64=true:=by kernel_rfl
def nI:jf prog 85 1 1=true:=by kernel_rfl
def yJ:dR prog 83 1 false=true:=by kernel_rfl
def dU:jX prog 83=true:=by kernel_rfl
def gz:jf prog 85 0 0=true:=by kernel_rfl
def w9:bJ prog 332 (TI .u64 0):=a7 (.int .u64 0) (by kernel_rfl) (fun _=>rfl)
def adh:oU prog 83 332 1=true:=by kernel_rfl
def W:Ay prog 83 1=true:=by kernel_rfl
def dx:dR prog 332 1 false=true:=by kernel_rfl
def Zn:mkB prog 83 332 1 8=true:=by kernel_rfl
def EM:Qu prog 4=true:=by kernel_rfl
def afp:T8 prog 263 .u64=true:=by kernel_rfl
def ai6:dY prog 315=true:=by kernel_rfl
def JM:jX prog 63=true:=by kernel_rfl
def PQ:Ay prog 63 1=true:=by kernel_rfl
def V:bJ prog 87 (iv 4 true):=a7 (.agg #[ap3,ap2,ap3,ap2]) (by kernel_rfl) (fun _=>iQ rfl rfl)
def Qx:bJ prog 87 (fJ [iv 2 true,iv 2 true]):=a7 (.agg #[ap3,ap2,ap3,ap2]) (by kernel_rfl) (fun _=>⟨_,rfl,⟨(.agg #[ap3,ap2]),[ap3,ap2],rfl,iQ rfl rfl,⟨(.agg #[ap3,ap2]),[],rfl,iQ rfl rfl,rfl⟩⟩⟩)
def M4:iX prog 87 [2,2]=true:=by kernel_rfl
def d:dR prog 87 4 true=true:=by kernel_rfl
def bY:bJ prog 91 (iv 12 true):=a7 (.agg #[ap3,ap2,ap3,ap2,ap3,ap2,ap3,ap2,ap3,ap2,ap3,ap2]) (by kernel_rfl) (fun _=>iQ rfl rfl)
def rl:bJ prog 91 (fJ [iv 4 true,iv 4 true,iv 4 true]):=a7 (.agg #[ap3,ap2,ap3,ap2,ap3,ap2,ap3,ap2,ap3,ap2,ap3,ap2]) (by kernel_rfl) (fun _=>⟨_,rfl,⟨(.agg #[ap3,ap2,ap3,ap2]),[ap3,ap2,ap3,ap2,ap3,ap2,ap3,ap2],rfl,iQ rfl rfl,⟨(.agg #[ap3,ap2,ap3,ap2]),[ap3,ap2,ap3,ap2],rfl,iQ rfl rfl,⟨(.agg #[ap3,ap2,ap3,ap2]),[],rfl,iQ rfl rfl,rfl⟩⟩⟩⟩)
def M:yP prog 91 3 4=true:=by kernel_rfl
def g:dR prog 91 12 true=true:=by kernel_rfl
def Mr:bJ prog 87 (Cq ((0,[]),(0,[]))):=a7 (.agg #[ap3,ap2,ap3,ap2]) (by kernel_rfl) (fun _=>⟨_,rfl,⟨(.agg #[ap3,ap2]),[ap3,ap2],rfl,⟨_,rfl,⟨ap3,[ap2],rfl,rfl,⟨ap2,[],rfl,zTN,rfl⟩⟩⟩,⟨(.agg #[ap3,ap2]),[],rfl,⟨_,rfl,⟨ap3,[ap2],rfl,rfl,⟨ap2,[],rfl,zTN,rfl⟩⟩⟩,rfl⟩⟩⟩)
def nH:jf prog 87 0 0=true:=by kernel_rfl
def mR:jf prog 87 1 2=true:=by kernel_rfl
def xK:bJ prog 93 (iv 48 true):=a7 (.agg #[ap3,ap2,ap3,ap2,ap3,ap2,ap3,ap2,ap3,ap2,ap3,ap2,ap3,ap2,ap3,ap2,ap3,ap2,ap3,ap2,ap3,ap2,ap3,ap2,ap3,ap2,ap3,ap2,ap3,ap2,ap3,ap2,ap3,ap2,ap3,ap2,ap3,ap2,ap3,ap2,ap3,ap2,ap3,ap2,ap3,ap2,ap3,ap2]) (by kernel_rfl) (fun _=>iQ rfl rfl)
def ad2:bJ prog 93 (fJ [iv 12 true,iv 12 true,iv 12 true,iv 12 true]):=a7 (.agg #[ap3,ap2,ap3,ap2,ap3,ap2,ap3,ap2,ap3,ap2,ap3,ap2,ap3,ap2,ap3,ap2,ap3,ap2,ap3,ap2,ap3,ap2,ap3,ap2,ap3,ap2,ap3,ap2,ap3,ap2,ap3,ap2,ap3,ap2,ap3,ap2,ap3,ap2,ap3,ap2,ap3,ap2,ap3,ap2,ap3,ap2,ap3,ap2]) (by kernel_rfl) (fun _=>⟨_,rfl,⟨(.agg #[ap3,ap2,ap3,ap2,ap3,ap2,ap3,ap2,ap3,ap2,ap3,ap2]),[ap3,ap2,ap3,ap2,ap3,ap2,ap3,ap2,ap3,ap2,ap3,ap2,ap3,ap2,ap3,ap2,ap3,ap2,ap3,ap2,ap3,ap2,ap3,ap2,ap3,ap2,ap3,ap2,ap3,ap2,ap3,ap2,ap3,ap2,ap3,ap2],rfl,iQ rfl rfl,⟨(.agg #[ap3,ap2,ap3,ap2,ap3,ap2,ap3,ap2,ap3,ap2,ap3,ap2]),[ap3,ap2,ap3,ap2,ap3,ap2,ap3,ap2,ap3,ap2,ap3,ap2,ap3,ap2,ap3,ap2,ap3,ap2,ap3,ap2,ap3,ap2,ap3,ap2],rfl,iQ rfl rfl,⟨(.agg #[ap3,ap2,ap3,ap2,ap3,ap2,ap3,ap2,ap3,ap2,ap3,ap2]),[ap3,ap2,ap3,ap2,ap3,ap2,ap3,ap2,ap3,ap2,ap3,ap2],rfl,iQ rfl rfl,⟨(.agg #[ap3,ap2,ap3,ap2,ap3,ap2,ap3,ap2,ap3,ap2,ap3,ap2]),[],rfl,iQ rfl rfl,rfl⟩⟩⟩⟩⟩)
def ahb:iX prog 93 [12,12,12,12]=true:=by kernel_rfl
def CG:dR prog 93 48 true=true:=by kernel_rfl
def Mk:jf prog 93 1 12=true:=by kernel_rfl
def Mj:jf prog 93 2 24=true:=by kernel_rfl
def zI:jf prog 93 3 36=true:=by kernel_rfl
def XF:jX prog 177=true:=by kernel_rfl
def aaW:Ay prog 177 1=true:=by kernel_rfl
def Kv:dR prog 31 1 false=true:=by kernel_rfl
def sJ:bJ prog 31 (TiZ 0):=a7 ap3 (by kernel_rfl) (fun _=>rfl)
def uW:oU prog 177 31 1=true:=by kernel_rfl
def xL:bJ prog 89 (iv 8 true):=a7 (.agg #[ap3,ap2,ap3,ap2,ap3,ap2,ap3,ap2]) (by kernel_rfl) (fun _=>iQ rfl rfl)
def X2:jf prog 93 0 0=true:=by kernel_rfl
def Ed:bJ prog 89 (fJ [iv 4 true,iv 4 true]):=a7 (.agg #[ap3,ap2,ap3,ap2,ap3,ap2,ap3,ap2]) (by kernel_rfl) (fun _=>⟨_,rfl,⟨(.agg #[ap3,ap2,ap3,ap2]),[ap3,ap2,ap3,ap2],rfl,iQ rfl rfl,⟨(.agg #[ap3,ap2,ap3,ap2]),[],rfl,iQ rfl rfl,rfl⟩⟩⟩)
def mO:yP prog 89 2 4=true:=by kernel_rfl
def kc:dR prog 89 8 true=true:=by kernel_rfl
def af6:bJ prog 9 (TS []):=a7 ap1 (by kernel_rfl) (fun _=>rfl)
def adk:oU prog 162 9 1=true:=by kernel_rfl
def XG:jX prog 162=true:=by kernel_rfl
def ajz:qe prog 162 9 1 16=true:=by kernel_rfl
def WI:(prog.info? 156).bind (·.zero)=some (.agg #[.pointer none,ap2]):=by kernel_rfl
def ahi:Ay prog 162 1=true:=by kernel_rfl
def anr:dR prog 9 1 false=true:=by kernel_rfl
def nY:bJ prog 30 (eh ([],[])):=a7 (.agg #[ap1,ap1]) (by kernel_rfl) (fun _=>⟨_,rfl,⟨ap1,[ap1],rfl,rfl,⟨ap1,[],rfl,rfl,rfl⟩⟩⟩)
def ni:yP prog 30 2 1=true:=by kernel_rfl
def px:dR prog 30 2 true=true:=by kernel_rfl
def VU:jX prog 54=true:=by kernel_rfl
def age:Ay prog 54 1=true:=by kernel_rfl
def agu:dR prog 48 1 false=true:=by kernel_rfl
def pD:jf prog 114 0 0=true:=by kernel_rfl
def JL:dR prog 112 3 true=true:=by kernel_rfl
def afR:Uw prog 112 3 3 1=true:=by kernel_rfl
def Ob:jf prog 114 1 3=true:=by kernel_rfl
def abY:jX prog 44=true:=by kernel_rfl
def agf:Ay prog 44 4=true:=by kernel_rfl
def iA:bJ prog 212 (iv 16 true):=a7 (.agg #[ap3,ap2,ap3,ap2,ap3,ap2,ap3,ap2,ap3,ap2,ap3,ap2,ap3,ap2,ap3,ap2]) (by kernel_rfl) (fun _=>iQ rfl rfl)
def CW:bJ prog 212 (fJ [iv 12 true,iv 4 true]):=a7 (.agg #[ap3,ap2,ap3,ap2,ap3,ap2,ap3,ap2,ap3,ap2,ap3,ap2,ap3,ap2,ap3,ap2]) (by kernel_rfl) (fun _=>⟨_,rfl,⟨(.agg #[ap3,ap2,ap3,ap2,ap3,ap2,ap3,ap2,ap3,ap2,ap3,ap2]),[ap3,ap2,ap3,ap2],rfl,iQ rfl rfl,⟨(.agg #[ap3,ap2,ap3,ap2]),[],rfl,iQ rfl rfl,rfl⟩⟩⟩)
def Ho:iX prog 212 [12,4]=true:=by kernel_rfl
def fI:dR prog 212 16 true=true:=by kernel_rfl
def JZ:oU prog 207 212 16=true:=by kernel_rfl
def mq:jX prog 207=true:=by kernel_rfl
def J4:qe prog 207 212 16 256=true:=by kernel_rfl
def mr:jX prog 144=true:=by kernel_rfl
def Dm:Ay prog 144 4=true:=by kernel_rfl
def Av:oU prog 144 87 4=true:=by kernel_rfl
def Aw:qe prog 144 87 4 64=true:=by kernel_rfl
def ai5:dY prog 351=true:=by kernel_rfl
def ow:dR prog 137 1 false=true:=by kernel_rfl
def ky:jX prog 137=true:=by kernel_rfl
def uw:Ay prog 137 12=true:=by kernel_rfl
def ai4:dY prog 379=true:=by kernel_rfl
def D7:oU prog 137 91 12=true:=by kernel_rfl
def Cn:qe prog 137 91 12 192=true:=by kernel_rfl
def akD:T8 prog 5 .u8=true:=by kernel_rfl
def Ee:bJ prog 461 (Yo (0,0)):=a7 (.agg #[ap3,ap3]) (by kernel_rfl) (fun _=>⟨_,rfl,⟨ap3,[ap3],rfl,rfl,⟨ap3,[],rfl,rfl,rfl⟩⟩⟩)
def J3:yP prog 461 2 1=true:=by kernel_rfl
def ajd:oU prog 462 461 2=true:=by kernel_rfl
def afm:jX prog 462=true:=by kernel_rfl
def ahg:Ay prog 462 2=true:=by kernel_rfl
def abJ:dR prog 461 2 true=true:=by kernel_rfl
def Mo:bJ prog 237 (fJ [iv 16 true,iv 1 false]):=a7 (.agg #[ap3,ap2,ap3,ap2,ap3,ap2,ap3,ap2,ap3,ap2,ap3,ap2,ap3,ap2,ap3,ap2,ap2]) (by kernel_rfl) (fun _=>⟨_,rfl,⟨(.agg #[ap3,ap2,ap3,ap2,ap3,ap2,ap3,ap2,ap3,ap2,ap3,ap2,ap3,ap2,ap3,ap2]),[ap2],rfl,iQ rfl rfl,⟨ap2,[],rfl,iQ rfl rfl,rfl⟩⟩⟩)
def QY:iX prog 237 [16,1]=true:=by kernel_rfl
def pM:bJ prog 237 (iv 17 true):=a7 (.agg #[ap3,ap2,ap3,ap2,ap3,ap2,ap3,ap2,ap3,ap2,ap3,ap2,ap3,ap2,ap3,ap2,ap2]) (by kernel_rfl) (fun _=>iQ rfl rfl)
def Sd:oU prog 232 237 17=true:=by kernel_rfl
def rC:jX prog 232=true:=by kernel_rfl
def Sf:qe prog 232 237 17 280=true:=by kernel_rfl
def jP:jf prog 212 0 0=true:=by kernel_rfl
def yM:jf prog 212 1 12=true:=by kernel_rfl
def aaw:bJ prog 326 (fJ [iv 12 true,iv 12 true]):=a7 (.agg #[ap3,ap2,ap3,ap2,ap3,ap2,ap3,ap2,ap3,ap2,ap3,ap2,ap3,ap2,ap3,ap2,ap3,ap2,ap3,ap2,ap3,ap2,ap3,ap2]) (by kernel_rfl) (fun _=>⟨_,rfl,⟨(.agg #[ap3,ap2,ap3,ap2,ap3,ap2,ap3,ap2,ap3,ap2,ap3,ap2]),[ap3,ap2,ap3,ap2,ap3,ap2,ap3,ap2,ap3,ap2,ap3,ap2],rfl,iQ rfl rfl,⟨(.agg #[ap3,ap2,ap3,ap2,ap3,ap2,ap3,ap2,ap3,ap2,ap3,ap2]),[],rfl,iQ rfl rfl,rfl⟩⟩⟩)
def Cm:yP prog 326 2 12=true:=by kernel_rfl
def ai7:dY prog 288=true:=by kernel_rfl
def aau:bJ prog 137 (TN ar []):=a7 ap2 (by kernel_rfl) (fun _=>zTN)
def Pz:bJ prog 326 (iv 24 true):=a7 (.agg #[ap3,ap2,ap3,ap2,ap3,ap2,ap3,ap2,ap3,ap2,ap3,ap2,ap3,ap2,ap3,ap2,ap3,ap2,ap3,ap2,ap3,ap2,ap3,ap2]) (by kernel_rfl) (fun _=>iQ rfl rfl)
def abL:dR prog 326 24 true=true:=by kernel_rfl
def Jl:Ay prog 232 17=true:=by kernel_rfl
def tJ:dR prog 237 17 true=true:=by kernel_rfl
def IS:jf prog 237 1 16=true:=by kernel_rfl
def DY:jf prog 237 0 0=true:=by kernel_rfl
def uv:Ay prog 207 16=true:=by kernel_rfl
def Of:Uw prog 91 87 3 4=true:=by kernel_rfl
def RP:jX prog 45=true:=by kernel_rfl
def aaT:Ay prog 45 4=true:=by kernel_rfl
def JN:jX prog 48=true:=by kernel_rfl
def aaS:Ay prog 48 1=true:=by kernel_rfl
def abK:dR prog 45 1 false=true:=by kernel_rfl
def ad3:bJ prog 232 (TL aK []):=a7 ap2 (by kernel_rfl) (fun _=>zTL)
def ajh:oU prog 202 232 1=true:=by kernel_rfl
def RT:jX prog 202=true:=by kernel_rfl
def ajx:qe prog 202 232 1 24=true:=by kernel_rfl
def Vk:Ay prog 202 1=true:=by kernel_rfl
def abN:dR prog 232 1 false=true:=by kernel_rfl
def agT:qe prog 43 24 3 48=true:=by kernel_rfl
def aat:bJ prog 209 (fJ [TN (TL bg) [],TN (TL ar) [],TN bg []]):=a7 (.agg #[ap2,ap2,ap2]) (by kernel_rfl) (fun _=>⟨_,rfl,⟨ap2,[ap2,ap2],rfl,zTN,⟨ap2,[ap2],rfl,zTN,⟨ap2,[],rfl,zTN,rfl⟩⟩⟩⟩)
def aeo:iX prog 209 [1,1,1]=true:=by kernel_rfl
def RB:xq prog 210 114 4=true:=by kernel_rfl
def aaD:bJ prog 4 (aY false):=a7 (.bool false) (by kernel_rfl) (fun _=>rfl)
def D0:jf prog 209 2 2=true:=by kernel_rfl
def Gj:dR prog 207 1 false=true:=by kernel_rfl
def D1:jf prog 209 0 0=true:=by kernel_rfl
def NM:dR prog 205 1 false=true:=by kernel_rfl
def ad4:bJ prog 207 (TL bg []):=a7 ap2 (by kernel_rfl) (fun _=>zTL)
def ajg:oU prog 205 207 1=true:=by kernel_rfl
def RS:jX prog 205=true:=by kernel_rfl
def ajw:qe prog 205 207 1 24=true:=by kernel_rfl
def IT:jf prog 209 1 1=true:=by kernel_rfl
def RM:dR prog 206 1 false=true:=by kernel_rfl
def ad6:bJ prog 137 (TL ar []):=a7 ap2 (by kernel_rfl) (fun _=>zTL)
def ajf:oU prog 206 137 1=true:=by kernel_rfl
def afn:jX prog 206=true:=by kernel_rfl
def ajv:qe prog 206 137 1 24=true:=by kernel_rfl
def Yr:bJ prog 124 (iv 1 false):=a7 (.pointer none) (by kernel_rfl) (fun _=>iQ rfl rfl)
def ajj:oU prog 166 124 1=true:=by kernel_rfl
def Me:jX prog 166=true:=by kernel_rfl
def ajy:qe prog 166 124 1 8=true:=by kernel_rfl
def aaU:Ay prog 206 1=true:=by kernel_rfl
def aaV:Ay prog 205 1=true:=by kernel_rfl
def Mq:bJ prog 128 (fJ [iv 12 true,iv 12 true]):=a7 (.agg #[ap3,ap2,ap3,ap2,ap3,ap2,ap3,ap2,ap3,ap2,ap3,ap2,ap3,ap2,ap3,ap2,ap3,ap2,ap3,ap2,ap3,ap2,ap3,ap2]) (by kernel_rfl) (fun _=>⟨_,rfl,⟨(.agg #[ap3,ap2,ap3,ap2,ap3,ap2,ap3,ap2,ap3,ap2,ap3,ap2]),[ap3,ap2,ap3,ap2,ap3,ap2,ap3,ap2,ap3,ap2,ap3,ap2],rfl,iQ rfl rfl,⟨(.agg #[ap3,ap2,ap3,ap2,ap3,ap2,ap3,ap2,ap3,ap2,ap3,ap2]),[],rfl,iQ rfl rfl,rfl⟩⟩⟩)
def Q0:iX prog 128 [12,12]=true:=by kernel_rfl
def AD:bJ prog 128 (iv 24 true):=a7 (.agg #[ap3,ap2,ap3,ap2,ap3,ap2,ap3,ap2,ap3,ap2,ap3,ap2,ap3,ap2,ap3,ap2,ap3,ap2,ap3,ap2,ap3,ap2,ap3,ap2]) (by kernel_rfl) (fun _=>iQ rfl rfl)
def adl:oU prog 123 128 24=true:=by kernel_rfl
def IG:jX prog 123=true:=by kernel_rfl
def adr:qe prog 123 128 24 384=true:=by kernel_rfl
def acS:Od prog 87 85 0 0=true:=by kernel_rfl
def ZX:Od prog 212 91 0 0=true:=by kernel_rfl
def Eg:bJ prog 218 (iv 24 true):=a7 (.agg #[ap3,ap2,ap3,ap2,ap3,ap2,ap3,ap2,ap3,ap2,ap3,ap2,ap3,ap2,ap3,ap2,ap3,ap2,ap3,ap2,ap3,ap2,ap3,ap2]) (by kernel_rfl) (fun _=>iQ rfl rfl)
def tQ:jf prog 128 1 12=true:=by kernel_rfl
def mv:jf prog 128 0 0=true:=by kernel_rfl
def aaz:bJ prog 218 (fJ [iv 12 true,iv 12 true]):=a7 (.agg #[ap3,ap2,ap3,ap2,ap3,ap2,ap3,ap2,ap3,ap2,ap3,ap2,ap3,ap2,ap3,ap2,ap3,ap2,ap3,ap2,ap3,ap2,ap3,ap2]) (by kernel_rfl) (fun _=>⟨_,rfl,⟨(.agg #[ap3,ap2,ap3,ap2,ap3,ap2,ap3,ap2,ap3,ap2,ap3,ap2]),[ap3,ap2,ap3,ap2,ap3,ap2,ap3,ap2,ap3,ap2,ap3,ap2],rfl,iQ rfl rfl,⟨(.agg #[ap3,ap2,ap3,ap2,ap3,ap2,ap3,ap2,ap3,ap2,ap3,ap2]),[],rfl,iQ rfl rfl,rfl⟩⟩⟩)
def aen:iX prog 218 [12,12]=true:=by kernel_rfl
def JJ:dR prog 218 24 true=true:=by kernel_rfl
def ahO:dR prog 144 1 false=true:=by kernel_rfl
def ajb:dY prog 192=true:=by kernel_rfl
def BJ:xq prog 310 24 3=true:=by kernel_rfl
def nG:jX prog 224=true:=by kernel_rfl
def GD:oU prog 224 226 8=true:=by kernel_rfl
def GG:qe prog 224 226 8 128=true:=by kernel_rfl
def rh:jf prog 226 0 0=true:=by kernel_rfl
def Gi:dR prog 224 1 false=true:=by kernel_rfl
def Br:Ay prog 224 8=true:=by kernel_rfl
def nb:jf prog 226 1 4=true:=by kernel_rfl
def tK:dR prog 226 8 true=true:=by kernel_rfl
def lZ:bJ prog 226 (iv 8 true):=a7 (.agg #[ap3,ap2,ap3,ap2,ap3,ap2,ap3,ap2]) (by kernel_rfl) (fun _=>iQ rfl rfl)
def aja:dY prog 206=true:=by kernel_rfl
def GP:bJ prog 224 (TN aS []):=a7 ap2 (by kernel_rfl) (fun _=>zTN)
def aar:bJ prog 215 (iv 1 false):=a7 (.map none) (by kernel_rfl) (fun _=>iQ rfl rfl)
def VN:dR prog 215 1 false=true:=by kernel_rfl
def Ca:dR prog 124 1 false=true:=by kernel_rfl
def Vm:Ay prog 123 24=true:=by kernel_rfl
def tL:dR prog 128 24 true=true:=by kernel_rfl
def tP:jf prog 218 0 0=true:=by kernel_rfl
def DZ:jf prog 218 1 12=true:=by kernel_rfl
def Qz:bJ prog 222 (ia (([],[],[]),([],[],[]))):=a7 (.agg #[ap1,ap1,ap1,ap1,ap1,ap1]) (by kernel_rfl) (fun _=>⟨_,rfl,⟨(.agg #[ap1,ap1,ap1]),[ap1,ap1,ap1],rfl,⟨_,rfl,⟨ap1,[ap1,ap1],rfl,rfl,⟨ap1,[ap1],rfl,rfl,⟨ap1,[],rfl,rfl,rfl⟩⟩⟩⟩,⟨(.agg #[ap1,ap1,ap1]),[],rfl,⟨_,rfl,⟨ap1,[ap1,ap1],rfl,rfl,⟨ap1,[ap1],rfl,rfl,⟨ap1,[],rfl,rfl,rfl⟩⟩⟩⟩,rfl⟩⟩⟩)
def aem:iX prog 222 [3,3]=true:=by kernel_rfl
def NL:dR prog 222 6 true=true:=by kernel_rfl
def Xr:xq prog 214 222 218=true:=by kernel_rfl
def CV:bJ prog 226 (fJ [iv 4 true,iv 4 true]):=a7 (.agg #[ap3,ap2,ap3,ap2,ap3,ap2,ap3,ap2]) (by kernel_rfl) (fun _=>⟨_,rfl,⟨(.agg #[ap3,ap2,ap3,ap2]),[ap3,ap2,ap3,ap2],rfl,iQ rfl rfl,⟨(.agg #[ap3,ap2,ap3,ap2]),[],rfl,iQ rfl rfl,rfl⟩⟩⟩)
def Hn:iX prog 226 [4,4]=true:=by kernel_rfl
def UZ:(prog.info? 224).bind (·.zero)=some ap2:=by kernel_rfl
def Xq:xq prog 215 222 224=true:=by kernel_rfl
def aay:bJ prog 296 (fJ [iv 4 true,iv 4 true,iv 4 true]):=a7 (.agg #[ap3,ap2,ap3,ap2,ap3,ap2,ap3,ap2,ap3,ap2,ap3,ap2]) (by kernel_rfl) (fun _=>⟨_,rfl,⟨(.agg #[ap3,ap2,ap3,ap2]),[ap3,ap2,ap3,ap2,ap3,ap2,ap3,ap2],rfl,iQ rfl rfl,⟨(.agg #[ap3,ap2,ap3,ap2]),[ap3,ap2,ap3,ap2],rfl,iQ rfl rfl,⟨(.agg #[ap3,ap2,ap3,ap2]),[],rfl,iQ rfl rfl,rfl⟩⟩⟩⟩)
def ael:iX prog 296 [4,4,4]=true:=by kernel_rfl
def Ef:bJ prog 296 (iv 12 true):=a7 (.agg #[ap3,ap2,ap3,ap2,ap3,ap2,ap3,ap2,ap3,ap2,ap3,ap2]) (by kernel_rfl) (fun _=>iQ rfl rfl)
def JI:dR prog 296 12 true=true:=by kernel_rfl
def yL:jf prog 296 1 4=true:=by kernel_rfl
def DW:jf prog 296 2 8=true:=by kernel_rfl
def aje:oU prog 294 296 12=true:=by kernel_rfl
def RQ:jX prog 294=true:=by kernel_rfl
def aju:qe prog 294 296 12 192=true:=by kernel_rfl
def Vj:Ay prog 294 12=true:=by kernel_rfl
def DX:jf prog 296 0 0=true:=by kernel_rfl
def Vl:Ay prog 166 1=true:=by kernel_rfl
def aax:bJ prog 299 (fJ [iv 8 true,iv 8 true]):=a7 (.agg #[ap3,ap2,ap3,ap2,ap3,ap2,ap3,ap2,ap3,ap2,ap3,ap2,ap3,ap2,ap3,ap2]) (by kernel_rfl) (fun _=>⟨_,rfl,⟨(.agg #[ap3,ap2,ap3,ap2,ap3,ap2,ap3,ap2]),[ap3,ap2,ap3,ap2,ap3,ap2,ap3,ap2],rfl,iQ rfl rfl,⟨(.agg #[ap3,ap2,ap3,ap2,ap3,ap2,ap3,ap2]),[],rfl,iQ rfl rfl,rfl⟩⟩⟩)
def aek:iX prog 299 [8,8]=true:=by kernel_rfl
def PA:bJ prog 299 (iv 16 true):=a7 (.agg #[ap3,ap2,ap3,ap2,ap3,ap2,ap3,ap2,ap3,ap2,ap3,ap2,ap3,ap2,ap3,ap2]) (by kernel_rfl) (fun _=>iQ rfl rfl)
def Gh:dR prog 299 16 true=true:=by kernel_rfl
def Oa:jf prog 299 0 0=true:=by kernel_rfl
def N9:jf prog 299 1 8=true:=by kernel_rfl
def Qy:bJ prog 300 (bK (([],[]),([],[]))):=a7 (.agg #[ap1,ap1,ap1,ap1]) (by kernel_rfl) (fun _=>⟨_,rfl,⟨(.agg #[ap1,ap1]),[ap1,ap1],rfl,⟨_,rfl,⟨ap1,[ap1],rfl,rfl,⟨ap1,[],rfl,rfl,rfl⟩⟩⟩,⟨(.agg #[ap1,ap1]),[],rfl,⟨_,rfl,⟨ap1,[ap1],rfl,rfl,⟨ap1,[],rfl,rfl,rfl⟩⟩⟩,rfl⟩⟩⟩)
def ajs:yP prog 300 2 2=true:=by kernel_rfl
def Gg:dR prog 300 4 true=true:=by kernel_rfl
def Us:jf prog 193 0 0=true:=by kernel_rfl
def abO:dR prog 190 1 false=true:=by kernel_rfl
def Xs:xq prog 190 300 299=true:=by kernel_rfl
def Uq:jf prog 193 2 2=true:=by kernel_rfl
def RN:dR prog 191 1 false=true:=by kernel_rfl
def LG:xq prog 191 300 224=true:=by kernel_rfl
def Ur:jf prog 193 1 1=true:=by kernel_rfl
def ajc:dY prog 114=true:=by kernel_rfl
def D2:jf prog 188 2 16=true:=by kernel_rfl
def D4:jf prog 188 0 0=true:=by kernel_rfl
def D3:jf prog 188 1 8=true:=by kernel_rfl
def Mp:bJ prog 188 (fJ [iv 8 true,iv 8 true,iv 1 false]):=a7 (.agg #[ap3,ap2,ap3,ap2,ap3,ap2,ap3,ap2,ap3,ap2,ap3,ap2,ap3,ap2,ap3,ap2,.bool false]) (by kernel_rfl) (fun _=>⟨_,rfl,⟨(.agg #[ap3,ap2,ap3,ap2,ap3,ap2,ap3,ap2]),[ap3,ap2,ap3,ap2,ap3,ap2,ap3,ap2,.bool false],rfl,iQ rfl rfl,⟨(.agg #[ap3,ap2,ap3,ap2,ap3,ap2,ap3,ap2]),[.bool false],rfl,iQ rfl rfl,⟨(.bool false),[],rfl,iQ rfl rfl,rfl⟩⟩⟩⟩)
def QZ:iX prog 188 [8,8,1]=true:=by kernel_rfl
def AB:bJ prog 188 (iv 17 true):=a7 (.agg #[ap3,ap2,ap3,ap2,ap3,ap2,ap3,ap2,ap3,ap2,ap3,ap2,ap3,ap2,ap3,ap2,.bool false]) (by kernel_rfl) (fun _=>iQ rfl rfl)
def adn:oU prog 120 188 17=true:=by kernel_rfl
def Mf:jX prog 120=true:=by kernel_rfl
def ads:qe prog 120 188 17 264=true:=by kernel_rfl
def ad5:bJ prog 166 (TL (TP dH) []):=a7 ap2 (by kernel_rfl) (fun _=>zTL)
def RO:dR prog 166 1 false=true:=by kernel_rfl
def aaA:bJ prog 193 (fJ [iv 1 false,iv 1 false,iv 1 false]):=a7 (.agg #[.map none,.map none,.map none]) (by kernel_rfl) (fun _=>⟨_,rfl,⟨(.map none),[.map none,.map none],rfl,iQ rfl rfl,⟨(.map none),[.map none],rfl,iQ rfl rfl,⟨(.map none),[],rfl,iQ rfl rfl,rfl⟩⟩⟩⟩)
def aep:iX prog 193 [1,1,1]=true:=by kernel_rfl
def aas:bJ prog 189 (iv 1 false):=a7 (.pointer none) (by kernel_rfl) (fun _=>iQ rfl rfl)
def VO:dR prog 189 1 false=true:=by kernel_rfl
def ahj:Ay prog 120 17=true:=by kernel_rfl
def JK:dR prog 188 17 true=true:=by kernel_rfl
def FW:bJ prog 78 (gn (([],[]),([],[]),false)):=a7 (.agg #[ap1,ap1,ap1,ap1,.bool false]) (by kernel_rfl) (fun _=>⟨_,rfl,⟨(.agg #[ap1,ap1]),[ap1,ap1,.bool false],rfl,⟨_,rfl,⟨ap1,[ap1],rfl,rfl,⟨ap1,[],rfl,rfl,rfl⟩⟩⟩,⟨(.agg #[ap1,ap1]),[.bool false],rfl,⟨_,rfl,⟨ap1,[ap1],rfl,rfl,⟨ap1,[],rfl,rfl,rfl⟩⟩⟩,⟨(.bool false),[],rfl,rfl,rfl⟩⟩⟩⟩)
def aaM:iX prog 78 [2,2,1]=true:=by kernel_rfl
def agS:oU prog 51 78 5=true:=by kernel_rfl
def Gl:jX prog 51=true:=by kernel_rfl
def amo:qe prog 51 78 5 72=true:=by kernel_rfl
def WH:bJ prog 129 (pK (([],[],[]),([],[],[]))):=a7 (.agg #[ap1,ap1,ap1,ap1,ap1,ap1]) (by kernel_rfl) (fun _=>⟨_,rfl,⟨(.agg #[ap1,ap1,ap1]),[ap1,ap1,ap1],rfl,⟨_,rfl,⟨ap1,[ap1,ap1],rfl,rfl,⟨ap1,[ap1],rfl,rfl,⟨ap1,[],rfl,rfl,rfl⟩⟩⟩⟩,⟨(.agg #[ap1,ap1,ap1]),[],rfl,⟨_,rfl,⟨ap1,[ap1,ap1],rfl,rfl,⟨ap1,[ap1],rfl,rfl,⟨ap1,[],rfl,rfl,rfl⟩⟩⟩⟩,rfl⟩⟩⟩)
def ajt:yP prog 129 2 3=true:=by kernel_rfl
def amh:oU prog 55 129 6=true:=by kernel_rfl
def abX:jX prog 55=true:=by kernel_rfl
def amn:qe prog 55 129 6 96=true:=by kernel_rfl
def abM:dR prog 321 1 false=true:=by kernel_rfl
def ai9:dY prog 212=true:=by kernel_rfl
def rD:jX prog 136=true:=by kernel_rfl
def Jm:Ay prog 136 8=true:=by kernel_rfl
def WA:oU prog 136 89 8=true:=by kernel_rfl
def Sg:qe prog 136 89 8 128=true:=by kernel_rfl
def amc:dY prog 73=true:=by kernel_rfl
def amg:oU prog 59 30 2=true:=by kernel_rfl
def Gk:jX prog 59=true:=by kernel_rfl
def amm:qe prog 59 30 2 32=true:=by kernel_rfl
def W8:Ay prog 59 2=true:=by kernel_rfl
def ank:mkB prog 63 22 1 16=true:=by kernel_rfl
def QA:bJ prog 22 (TS []):=a7 ap1 (by kernel_rfl) (fun _=>rfl)
def ES:jf prog 78 0 0=true:=by kernel_rfl
def ER:jf prog 78 1 2=true:=by kernel_rfl
def X3:jf prog 78 2 4=true:=by kernel_rfl
def S5:Ay prog 51 5=true:=by kernel_rfl
def FQ:dR prog 78 5 true=true:=by kernel_rfl
def adi:oU prog 63 22 1=true:=by kernel_rfl
def acR:Od prog 93 91 3 36=true:=by kernel_rfl
def I9:bJ prog 170 (iv 48 true):=a7 (.agg #[ap3,ap2,ap3,ap2,ap3,ap2,ap3,ap2,ap3,ap2,ap3,ap2,ap3,ap2,ap3,ap2,ap3,ap2,ap3,ap2,ap3,ap2,ap3,ap2,ap3,ap2,ap3,ap2,ap3,ap2,ap3,ap2,ap3,ap2,ap3,ap2,ap3,ap2,ap3,ap2,ap3,ap2,ap3,ap2,ap3,ap2,ap3,ap2]) (by kernel_rfl) (fun _=>iQ rfl rfl)
def X7:jf prog 75 0 0=true:=by kernel_rfl
def X6:jf prog 75 1 3=true:=by kernel_rfl
def X5:jf prog 75 2 6=true:=by kernel_rfl
def X4:jf prog 75 3 9=true:=by kernel_rfl
def aaB:bJ prog 170 (fJ [iv 12 true,iv 12 true,iv 12 true,iv 12 true]):=a7 (.agg #[ap3,ap2,ap3,ap2,ap3,ap2,ap3,ap2,ap3,ap2,ap3,ap2,ap3,ap2,ap3,ap2,ap3,ap2,ap3,ap2,ap3,ap2,ap3,ap2,ap3,ap2,ap3,ap2,ap3,ap2,ap3,ap2,ap3,ap2,ap3,ap2,ap3,ap2,ap3,ap2,ap3,ap2,ap3,ap2,ap3,ap2,ap3,ap2]) (by kernel_rfl) (fun _=>⟨_,rfl,⟨(.agg #[ap3,ap2,ap3,ap2,ap3,ap2,ap3,ap2,ap3,ap2,ap3,ap2]),[ap3,ap2,ap3,ap2,ap3,ap2,ap3,ap2,ap3,ap2,ap3,ap2,ap3,ap2,ap3,ap2,ap3,ap2,ap3,ap2,ap3,ap2,ap3,ap2,ap3,ap2,ap3,ap2,ap3,ap2,ap3,ap2,ap3,ap2,ap3,ap2],rfl,iQ rfl rfl,⟨(.agg #[ap3,ap2,ap3,ap2,ap3,ap2,ap3,ap2,ap3,ap2,ap3,ap2]),[ap3,ap2,ap3,ap2,ap3,ap2,ap3,ap2,ap3,ap2,ap3,ap2,ap3,ap2,ap3,ap2,ap3,ap2,ap3,ap2,ap3,ap2,ap3,ap2],rfl,iQ rfl rfl,⟨(.agg #[ap3,ap2,ap3,ap2,ap3,ap2,ap3,ap2,ap3,ap2,ap3,ap2]),[ap3,ap2,ap3,ap2,ap3,ap2,ap3,ap2,ap3,ap2,ap3,ap2],rfl,iQ rfl rfl,⟨(.agg #[ap3,ap2,ap3,ap2,ap3,ap2,ap3,ap2,ap3,ap2,ap3,ap2]),[],rfl,iQ rfl rfl,rfl⟩⟩⟩⟩⟩)
def aer:iX prog 170 [12,12,12,12]=true:=by kernel_rfl
def DQ:dR prog 170 48 true=true:=by kernel_rfl
def Bc:jf prog 170 1 12=true:=by kernel_rfl
def yO:jf prog 170 2 24=true:=by kernel_rfl
def yN:jf prog 170 3 36=true:=by kernel_rfl
def aav:bJ prog 356 (fJ [iv 12 true,iv 12 true,iv 12 true]):=a7 (.agg #[ap3,ap2,ap3,ap2,ap3,ap2,ap3,ap2,ap3,ap2,ap3,ap2,ap3,ap2,ap3,ap2,ap3,ap2,ap3,ap2,ap3,ap2,ap3,ap2,ap3,ap2,ap3,ap2,ap3,ap2,ap3,ap2,ap3,ap2,ap3,ap2]) (by kernel_rfl) (fun _=>⟨_,rfl,⟨(.agg #[ap3,ap2,ap3,ap2,ap3,ap2,ap3,ap2,ap3,ap2,ap3,ap2]),[ap3,ap2,ap3,ap2,ap3,ap2,ap3,ap2,ap3,ap2,ap3,ap2,ap3,ap2,ap3,ap2,ap3,ap2,ap3,ap2,ap3,ap2,ap3,ap2],rfl,iQ rfl rfl,⟨(.agg #[ap3,ap2,ap3,ap2,ap3,ap2,ap3,ap2,ap3,ap2,ap3,ap2]),[ap3,ap2,ap3,ap2,ap3,ap2,ap3,ap2,ap3,ap2,ap3,ap2],rfl,iQ rfl rfl,⟨(.agg #[ap3,ap2,ap3,ap2,ap3,ap2,ap3,ap2,ap3,ap2,ap3,ap2]),[],rfl,iQ rfl rfl,rfl⟩⟩⟩⟩)
def ajr:yP prog 356 3 12=true:=by kernel_rfl
def afQ:Uw prog 356 91 3 12=true:=by kernel_rfl
def ai8:dY prog 251=true:=by kernel_rfl
def abI:dR prog 75 12 true=true:=by kernel_rfl
def acV:jf prog 170 0 0=true:=by kernel_rfl
def GQ:bJ prog 172 (fJ [iv 12 true,iv 12 true]):=a7 (.agg #[ap3,ap2,ap3,ap2,ap3,ap2,ap3,ap2,ap3,ap2,ap3,ap2,ap3,ap2,ap3,ap2,ap3,ap2,ap3,ap2,ap3,ap2,ap3,ap2]) (by kernel_rfl) (fun _=>⟨_,rfl,⟨(.agg #[ap3,ap2,ap3,ap2,ap3,ap2,ap3,ap2,ap3,ap2,ap3,ap2]),[ap3,ap2,ap3,ap2,ap3,ap2,ap3,ap2,ap3,ap2,ap3,ap2],rfl,iQ rfl rfl,⟨(.agg #[ap3,ap2,ap3,ap2,ap3,ap2,ap3,ap2,ap3,ap2,ap3,ap2]),[],rfl,iQ rfl rfl,rfl⟩⟩⟩)
def Lm:iX prog 172 [12,12]=true:=by kernel_rfl
def PB:bJ prog 172 (iv 24 true):=a7 (.agg #[ap3,ap2,ap3,ap2,ap3,ap2,ap3,ap2,ap3,ap2,ap3,ap2,ap3,ap2,ap3,ap2,ap3,ap2,ap3,ap2,ap3,ap2,ap3,ap2]) (by kernel_rfl) (fun _=>iQ rfl rfl)
def aji:oU prog 174 172 24=true:=by kernel_rfl
def afo:jX prog 174=true:=by kernel_rfl
def ahh:Ay prog 174 24=true:=by kernel_rfl
def abP:dR prog 172 24 true=true:=by kernel_rfl
def acU:jf prog 172 0 0=true:=by kernel_rfl
def acT:jf prog 172 1 12=true:=by kernel_rfl
def amf:oU prog 70 26 9=true:=by kernel_rfl
def abW:jX prog 70=true:=by kernel_rfl
def amk:qe prog 70 26 9 144=true:=by kernel_rfl
def U4:bJ prog 45 (TL bz []):=a7 ap2 (by kernel_rfl) (fun _=>zTL)
def adj:oU prog 48 45 1=true:=by kernel_rfl
def aaC:bJ prog 48 (TL (TL bz) []):=a7 ap2 (by kernel_rfl) (fun _=>zTL)
def agR:oU prog 54 48 1=true:=by kernel_rfl
def agX:bJ prog 75 (zO (([],[],[]),([],[],[]),([],[],[]),([],[],[]))):=a7 (.agg #[ap1,ap1,ap1,ap1,ap1,ap1,ap1,ap1,ap1,ap1,ap1,ap1]) (by kernel_rfl) (fun _=>⟨_,rfl,⟨(.agg #[ap1,ap1,ap1]),[ap1,ap1,ap1,ap1,ap1,ap1,ap1,ap1,ap1],rfl,⟨_,rfl,⟨ap1,[ap1,ap1],rfl,rfl,⟨ap1,[ap1],rfl,rfl,⟨ap1,[],rfl,rfl,rfl⟩⟩⟩⟩,⟨(.agg #[ap1,ap1,ap1]),[ap1,ap1,ap1,ap1,ap1,ap1],rfl,⟨_,rfl,⟨ap1,[ap1,ap1],rfl,rfl,⟨ap1,[ap1],rfl,rfl,⟨ap1,[],rfl,rfl,rfl⟩⟩⟩⟩,⟨(.agg #[ap1,ap1,ap1]),[ap1,ap1,ap1],rfl,⟨_,rfl,⟨ap1,[ap1,ap1],rfl,rfl,⟨ap1,[ap1],rfl,rfl,⟨ap1,[],rfl,rfl,rfl⟩⟩⟩⟩,⟨(.agg #[ap1,ap1,ap1]),[],rfl,⟨_,rfl,⟨ap1,[ap1,ap1],rfl,rfl,⟨ap1,[ap1],rfl,rfl,⟨ap1,[],rfl,rfl,rfl⟩⟩⟩⟩,rfl⟩⟩⟩⟩⟩)
def ahc:iX prog 75 [3,3,3,3]=true:=by kernel_rfl
def ake:Ay prog 70 9=true:=by kernel_rfl
def abB:mkB prog 104 3 1 8=true:=by kernel_rfl
end Trn
