/-
  Part of the proof of DrawMoves.
-/
import Derived.Test.YtokjddaclakenaaGreatDoorEd
import Derived.Test.YtokjddaclakenaaGreatDoorProg
set_option maxRecDepth 100000
set_option maxHeartbeats 20000000
set_option linter.all false
open Go Go.RowKit Go.Proofs Go.Proofs.Tryz
namespace Trn
abbrev arf:Value:= .int .i64 0
abbrev are:Value:= .slice none 0 0
abbrev ard:Value:= .string ⟨#[]⟩
def mixed:prog.follows .mixedOrders=true:=ax
@[reducible] def aR(x:aev×aev×aev):Ty:=gn [TS x.1,TS x.2.1,TS x.2.2]
@[reducible] def cn(x:auw×auw×auw):Ty:=gn [aR x.1,aR x.2.1,aR x.2.2]
@[reducible] def AQ(x:Int×Int×Int):Ty:=gn [TiZ x.1,TiZ x.2.1,TiZ x.2.2]
@[reducible] def bF(x:(Int×Int×Int)×aev):Ty:=gn [AQ x.1,TS x.2]
@[reducible] def bn(x:Bool×asv Int):Ty:=gn [aZ x.1,(TL TiZ) x.2]
@[reducible] def aq(x:Rat×Rat×Rat):Ty:=gn [aY x.1,aY x.2.1,aY x.2.2]
@[reducible] def Dk(x:(Int×asv Int)×(Int×asv Int)):Ty:=gn [a7 x.1,a7 x.2]
@[reducible] def Fb(x:V3×V3×V3×V3):Ty:=gn [aq x.1,aq x.2.1,aq x.2.2.1,aq x.2.2.2]
@[reducible] def aV(x:Rat×Rat):Ty:=gn [aY x.1,aY x.2]
@[reducible] def fi(x:aev×aev):Ty:=gn [TS x.1,TS x.2]
@[reducible] def bm(x:V3×Rat):Ty:=gn [aq x.1,aY x.2]
@[reducible] def aK(x:(V3×Rat)×(asv V3)):Ty:=gn [bm x.1,(TL aq) x.2]
@[reducible] def Zh(x:Int×Int):Ty:=gn [TiZ x.1,TiZ x.2]
@[reducible] def J0(x:V3×V3):Ty:=gn [aq x.1,aq x.2]
@[reducible] def eC(x:(asv (asv (V3×Rat)))×(asv (asv V3))×(asv (V3×Rat))):Ty:=gn [(TL (TL bm)) x.1,(TL (TL aq)) x.2.1,(TL bm) x.2.2]
@[reducible] def cp(x:V3×V3):Ty:=gn [aq x.1,aq x.2]
@[reducible] def nv(x:V3×V3):Ty:=gn [aq x.1,aq x.2]
@[reducible] def aW(x:Rat×Rat):Ty:=gn [aY x.1,aY x.2]
@[reducible] def iD(x:auw×auw):Ty:=gn [aR x.1,aR x.2]
@[reducible] def Dl(x:Rat×Rat×Rat):Ty:=gn [aY x.1,aY x.2.1,aY x.2.2]
@[reducible] def iJ(x:(Rat×Rat)×(Rat×Rat)):Ty:=gn [aV x.1,aV x.2]
@[reducible] def bM(x:(aev×aev)×(aev×aev)):Ty:=gn [fi x.1,fi x.2]
@[reducible] def J1(x:(asv (((aev×aev)×(aev×aev))×((Rat×Rat)×(Rat×Rat))))×(asv (((aev×aev)×(aev×aev))×(asv (Rat×Rat))))×(asv (((aev×aev)×(aev×aev))×(asv (Rat×Rat))))):Ty:=gn [(TMp bM iJ) x.1,(TMp bM (TL aW)) x.2.1,(TMp bM (TL aW)) x.2.2]
@[reducible] def ia(x:(Rat×Rat)×(Rat×Rat)×Bool):Ty:=gn [aV x.1,aV x.2.1,aZ x.2.2]
@[reducible] def gR(x:(aev×aev)×(aev×aev)×Bool):Ty:=gn [fi x.1,fi x.2.1,aZ x.2.2]
@[reducible] def qp(x:auw×auw):Ty:=gn [aR x.1,aR x.2]
@[reducible] def iE(x:auw×auw×auw×auw):Ty:=gn [aR x.1,aR x.2.1,aR x.2.2.1,aR x.2.2.2]
@[reducible] def qo(x:V3×V3×V3×V3):Ty:=gn [aq x.1,aq x.2.1,aq x.2.2.1,aq x.2.2.2]
@[reducible] def VJ(x:V3×V3×V3):Ty:=gn [aq x.1,aq x.2.1,aq x.2.2]
@[reducible] def wc(x:V3×V3):Ty:=gn [aq x.1,aq x.2]
def xH:kA prog 62=true:=ax
def Ei:Br prog 62 3=true:=ax
def gJ:zT prog 24 3 1=true:=ax
def T:eG prog 22 1 false=true:=ax
def JE:isStr prog 22=true:=ax
def JQ:jO prog 26 0 0=true:=ax
def B:eG prog 24 3 true=true:=ax
def C9:jO prog 26 1 3=true:=ax
def C8:jO prog 26 2 6=true:=ax
def il:bL prog 24 (aR ([],[],[])):=a8 (.agg #[ard,ard,ard]) ax (fun _=>⟨_,rfl,⟨ard,[ard,ard],rfl,rfl,⟨ard,[ard],rfl,rfl,⟨ard,[],rfl,rfl,rfl⟩⟩⟩⟩)
def LD:pM prog 62 24 3=true:=ax
def qw:bL prog 159 (bF ((0,0,0),[])):=a8 (.agg #[arf,arf,arf,ard]) ax (fun _=>⟨_,rfl,⟨(.agg #[arf,arf,arf]),[ard],rfl,⟨_,rfl,⟨arf,[arf,arf],rfl,rfl,⟨arf,[arf],rfl,rfl,⟨arf,[],rfl,rfl,rfl⟩⟩⟩⟩,⟨ard,[],rfl,rfl,rfl⟩⟩⟩)
def Rt:bL prog 157 (AQ (0,0,0)):=a8 (.agg #[arf,arf,arf]) ax (fun _=>⟨_,rfl,⟨arf,[arf,arf],rfl,rfl,⟨arf,[arf],rfl,rfl,⟨arf,[],rfl,rfl,rfl⟩⟩⟩⟩)
def tc:zT prog 157 3 1=true:=ax
def Ml:jI prog 159 [3,1]=true:=ax
def mx:eG prog 159 4 true=true:=ax
def anj:pM prog 64 159 4=true:=ax
def eh:kA prog 120=true:=ax
def ft:Br prog 120 1=true:=ax
def C:eG prog 3 1 false=true:=ax
def lM:bL prog 231 (bn (false,[])):=a8 (.agg #[.bool false,are]) ax (fun _=>⟨_,rfl,⟨(.bool false),[are],rfl,rfl,⟨are,[],rfl,zTL,rfl⟩⟩⟩)
def afr:jI prog 231 [1,1]=true:=ax
def fq:eG prog 231 2 true=true:=ax
def pq:bL prog 3 (TiZ 0):=a8 arf ax (fun _=>rfl)
def ry:pM prog 120 3 1=true:=ax
def HL:qV prog 120 3 1 8=true:=ax
def V:isStr prog 9=true:=ax
def iS:jO prog 231 1 1=true:=ax
def mL:eG prog 120 1 false=true:=ax
def qh:jO prog 231 0 0=true:=ax
def yK:eG prog 4 1 false=true:=ax
def mI:bL prog 26 (cn (([],[],[]),([],[],[]),([],[],[]))):=a8 (.agg #[ard,ard,ard,ard,ard,ard,ard,ard,ard]) ax (fun _=>⟨_,rfl,⟨(.agg #[ard,ard,ard]),[ard,ard,ard,ard,ard,ard],rfl,⟨_,rfl,⟨ard,[ard,ard],rfl,rfl,⟨ard,[ard],rfl,rfl,⟨ard,[],rfl,rfl,rfl⟩⟩⟩⟩,⟨(.agg #[ard,ard,ard]),[ard,ard,ard],rfl,⟨_,rfl,⟨ard,[ard,ard],rfl,rfl,⟨ard,[ard],rfl,rfl,⟨ard,[],rfl,rfl,rfl⟩⟩⟩⟩,⟨(.agg #[ard,ard,ard]),[],rfl,⟨_,rfl,⟨ard,[ard,ard],rfl,rfl,⟨ard,[ard],rfl,rfl,⟨ard,[],rfl,rfl,rfl⟩⟩⟩⟩,rfl⟩⟩⟩⟩)
def xp:jI prog 26 [3,3,3]=true:=ax
def iK:eG prog 26 9 true=true:=ax
def gT:bL prog 98 (a7 (0,[])):=a8 (.agg #[arf,are]) ax (fun _=>⟨_,rfl,⟨arf,[are],rfl,rfl,⟨are,[],rfl,zTN,rfl⟩⟩⟩)
def vv:jI prog 98 [1,1]=true:=ax
def m:eG prog 98 2 true=true:=ax
def Lv:U3 prog 3 .i64=true:=ax
def FR:U3 prog 361 .u64=true:=ax
def oI:jO prog 98 1 1=true:=ax
def zP:eG prog 96 1 false=true:=ax
def eL:kA prog 96=true:=ax
def gY:jO prog 98 0 0=true:=ax
def yf:bL prog 361 (TI .u64 0):=a8 (.int .u64 0) ax (fun _=>rfl)
def aed:pM prog 96 361 1=true:=ax
def Z:Br prog 96 1=true:=ax
def dY:eG prog 361 1 false=true:=ax
def aaj:mkB prog 96 361 1 8=true:=ax
def FP:Rn prog 4=true:=ax
def agt:U3 prog 294 .u64=true:=ax
def aj7:eN prog 344=true:=ax
def KI:kA prog 85=true:=ax
def QL:Br prog 85 1=true:=ax
def W:bL prog 100 (iV 4 true):=a8 (.agg #[arf,are,arf,are]) ax (fun _=>jw rfl rfl)
def Nl:bL prog 100 (gn [iV 2 true,iV 2 true]):=a8 (.agg #[arf,are,arf,are]) ax (fun _=>⟨_,rfl,⟨(.agg #[arf,are]),[arf,are],rfl,jw rfl rfl,⟨(.agg #[arf,are]),[],rfl,jw rfl rfl,rfl⟩⟩⟩)
def Ix:jI prog 100 [2,2]=true:=ax
def d:eG prog 100 4 true=true:=ax
def bJ:bL prog 102 (iV 12 true):=a8 (.agg #[arf,are,arf,are,arf,are,arf,are,arf,are,arf,are]) ax (fun _=>jw rfl rfl)
def oN:bL prog 102 (gn [iV 4 true,iV 4 true,iV 4 true]):=a8 (.agg #[arf,are,arf,are,arf,are,arf,are,arf,are,arf,are]) ax (fun _=>⟨_,rfl,⟨(.agg #[arf,are,arf,are]),[arf,are,arf,are,arf,are,arf,are],rfl,jw rfl rfl,⟨(.agg #[arf,are,arf,are]),[arf,are,arf,are],rfl,jw rfl rfl,⟨(.agg #[arf,are,arf,are]),[],rfl,jw rfl rfl,rfl⟩⟩⟩⟩)
def P:zT prog 102 3 4=true:=ax
def g:eG prog 102 12 true=true:=ax
def J6:bL prog 100 (Dk ((0,[]),(0,[]))):=a8 (.agg #[arf,are,arf,are]) ax (fun _=>⟨_,rfl,⟨(.agg #[arf,are]),[arf,are],rfl,⟨_,rfl,⟨arf,[are],rfl,rfl,⟨are,[],rfl,zTN,rfl⟩⟩⟩,⟨(.agg #[arf,are]),[],rfl,⟨_,rfl,⟨arf,[are],rfl,rfl,⟨are,[],rfl,zTN,rfl⟩⟩⟩,rfl⟩⟩⟩)
def mA:jO prog 100 0 0=true:=ax
def lL:jO prog 100 1 2=true:=ax
def te:bL prog 109 (iV 48 true):=a8 (.agg #[arf,are,arf,are,arf,are,arf,are,arf,are,arf,are,arf,are,arf,are,arf,are,arf,are,arf,are,arf,are,arf,are,arf,are,arf,are,arf,are,arf,are,arf,are,arf,are,arf,are,arf,are,arf,are,arf,are,arf,are]) ax (fun _=>jw rfl rfl)
def abz:bL prog 109 (gn [iV 12 true,iV 12 true,iV 12 true,iV 12 true]):=a8 (.agg #[arf,are,arf,are,arf,are,arf,are,arf,are,arf,are,arf,are,arf,are,arf,are,arf,are,arf,are,arf,are,arf,are,arf,are,arf,are,arf,are,arf,are,arf,are,arf,are,arf,are,arf,are,arf,are,arf,are,arf,are]) ax (fun _=>⟨_,rfl,⟨(.agg #[arf,are,arf,are,arf,are,arf,are,arf,are,arf,are]),[arf,are,arf,are,arf,are,arf,are,arf,are,arf,are,arf,are,arf,are,arf,are,arf,are,arf,are,arf,are,arf,are,arf,are,arf,are,arf,are,arf,are,arf,are],rfl,jw rfl rfl,⟨(.agg #[arf,are,arf,are,arf,are,arf,are,arf,are,arf,are]),[arf,are,arf,are,arf,are,arf,are,arf,are,arf,are,arf,are,arf,are,arf,are,arf,are,arf,are,arf,are],rfl,jw rfl rfl,⟨(.agg #[arf,are,arf,are,arf,are,arf,are,arf,are,arf,are]),[arf,are,arf,are,arf,are,arf,are,arf,are,arf,are],rfl,jw rfl rfl,⟨(.agg #[arf,are,arf,are,arf,are,arf,are,arf,are,arf,are]),[],rfl,jw rfl rfl,rfl⟩⟩⟩⟩⟩)
def afs:jI prog 109 [12,12,12,12]=true:=ax
def vZ:eG prog 109 48 true=true:=ax
def E3:jO prog 109 1 12=true:=ax
def E2:jO prog 109 2 24=true:=ax
def xh:jO prog 109 3 36=true:=ax
def YE:kA prog 202=true:=ax
def abV:Br prog 202 1=true:=ax
def Lt:eG prog 32 1 false=true:=ax
def sI:bL prog 32 (TiZ 0):=a8 arf ax (fun _=>rfl)
def uN:pM prog 202 32 1=true:=ax
def vj:bL prog 144 (iV 8 true):=a8 (.agg #[arf,are,arf,are,arf,are,arf,are]) ax (fun _=>jw rfl rfl)
def Pc:jO prog 109 0 0=true:=ax
def Bt:bL prog 144 (gn [iV 4 true,iV 4 true]):=a8 (.agg #[arf,are,arf,are,arf,are,arf,are]) ax (fun _=>⟨_,rfl,⟨(.agg #[arf,are,arf,are]),[arf,are,arf,are],rfl,jw rfl rfl,⟨(.agg #[arf,are,arf,are]),[],rfl,jw rfl rfl,rfl⟩⟩⟩)
def ki:zT prog 144 2 4=true:=ax
def iy:eG prog 144 8 true=true:=ax
def ahd:bL prog 9 (TS []):=a8 ard ax (fun _=>rfl)
def aei:pM prog 139 9 1=true:=ax
def YF:kA prog 139=true:=ax
def akA:qV prog 139 9 1 16=true:=ax
def XJ:(prog.info? 133).bind (·.zero)=some (.agg #[.pointer none,are]):=ax
def aim:Br prog 139 1=true:=ax
def aoC:eG prog 9 1 false=true:=ax
def tE:bL prog 48 (fi ([],[])):=a8 (.agg #[ard,ard]) ax (fun _=>⟨_,rfl,⟨ard,[ard],rfl,rfl,⟨ard,[],rfl,rfl,rfl⟩⟩⟩)
def o5:zT prog 48 2 1=true:=ax
def vh:eG prog 48 2 true=true:=ax
def WR:kA prog 76=true:=ax
def ahk:Br prog 76 1=true:=ax
def ahy:eG prog 67 1 false=true:=ax
def qi:jO prog 159 0 0=true:=ax
def KF:eG prog 157 3 true=true:=ax
def agZ:Vu prog 157 3 3 1=true:=ax
def Pb:jO prog 159 1 3=true:=ax
def ac3:kA prog 63=true:=ax
def ahl:Br prog 63 4=true:=ax
def iX:bL prog 255 (iV 16 true):=a8 (.agg #[arf,are,arf,are,arf,are,arf,are,arf,are,arf,are,arf,are,arf,are]) ax (fun _=>jw rfl rfl)
def DS:bL prog 255 (gn [iV 12 true,iV 4 true]):=a8 (.agg #[arf,are,arf,are,arf,are,arf,are,arf,are,arf,are,arf,are,arf,are]) ax (fun _=>⟨_,rfl,⟨(.agg #[arf,are,arf,are,arf,are,arf,are,arf,are,arf,are]),[arf,are,arf,are],rfl,jw rfl rfl,⟨(.agg #[arf,are,arf,are]),[],rfl,jw rfl rfl,rfl⟩⟩⟩)
def Iw:jI prog 255 [12,4]=true:=ax
def gk:eG prog 255 16 true=true:=ax
def KU:pM prog 250 255 16=true:=ax
def np:kA prog 250=true:=ax
def KZ:qV prog 250 255 16 256=true:=ax
def nr:kA prog 191=true:=ax
def Ej:Br prog 191 4=true:=ax
def Bp:pM prog 191 100 4=true:=ax
def Bq:qV prog 191 100 4 64=true:=ax
def aj6:eN prog 386=true:=ax
def pn:eG prog 185 1 false=true:=ax
def lg:kA prog 185=true:=ax
def vy:Br prog 185 12=true:=ax
def aj5:eN prog 408=true:=ax
def E7:pM prog 185 102 12=true:=ax
def Dg:qV prog 185 102 12 192=true:=ax
def alE:U3 prog 5 .u8=true:=ax
def Fe:bL prog 494 (Zh (0,0)):=a8 (.agg #[arf,arf]) ax (fun _=>⟨_,rfl,⟨arf,[arf],rfl,rfl,⟨arf,[],rfl,rfl,rfl⟩⟩⟩)
def KY:zT prog 494 2 1=true:=ax
def akf:pM prog 495 494 2=true:=ax
def agq:kA prog 495=true:=ax
def aik:Br prog 495 2=true:=ax
def acP:eG prog 494 2 true=true:=ax
def Ni:bL prog 280 (gn [iV 16 true,iV 1 false]):=a8 (.agg #[arf,are,arf,are,arf,are,arf,are,arf,are,arf,are,arf,are,arf,are,are]) ax (fun _=>⟨_,rfl,⟨(.agg #[arf,are,arf,are,arf,are,arf,are,arf,are,arf,are,arf,are,arf,are]),[are],rfl,jw rfl rfl,⟨are,[],rfl,jw rfl rfl,rfl⟩⟩⟩)
def RU:jI prog 280 [16,1]=true:=ax
def qu:bL prog 280 (iV 17 true):=a8 (.agg #[arf,are,arf,are,arf,are,arf,are,arf,are,arf,are,arf,are,arf,are,are]) ax (fun _=>jw rfl rfl)
def S7:pM prog 275 280 17=true:=ax
def sG:kA prog 275=true:=ax
def S9:qV prog 275 280 17 280=true:=ax
def kr:jO prog 255 0 0=true:=ax
def zS:jO prog 255 1 12=true:=ax
def abt:bL prog 355 (gn [iV 12 true,iV 12 true]):=a8 (.agg #[arf,are,arf,are,arf,are,arf,are,arf,are,arf,are,arf,are,arf,are,arf,are,arf,are,arf,are,arf,are]) ax (fun _=>⟨_,rfl,⟨(.agg #[arf,are,arf,are,arf,are,arf,are,arf,are,arf,are]),[arf,are,arf,are,arf,are,arf,are,arf,are,arf,are],rfl,jw rfl rfl,⟨(.agg #[arf,are,arf,are,arf,are,arf,are,arf,are,arf,are]),[],rfl,jw rfl rfl,rfl⟩⟩⟩)
def Df:zT prog 355 2 12=true:=ax
def aj8:eN prog 321=true:=ax
def abr:bL prog 185 (TN aq []):=a8 are ax (fun _=>zTN)
def Qy:bL prog 355 (iV 24 true):=a8 (.agg #[arf,are,arf,are,arf,are,arf,are,arf,are,arf,are,arf,are,arf,are,arf,are,arf,are,arf,are,arf,are]) ax (fun _=>jw rfl rfl)
def acQ:eG prog 355 24 true=true:=ax
def Kk:Br prog 275 17=true:=ax
def uA:eG prog 280 17 true=true:=ax
def JP:jO prog 280 1 16=true:=ax
def EV:jO prog 280 0 0=true:=ax
def vx:Br prog 250 16=true:=ax
def JS:Vu prog 102 100 3 4=true:=ax
def SG:kA prog 64=true:=ax
def abR:Br prog 64 4=true:=ax
def KJ:kA prog 67=true:=ax
def abQ:Br prog 67 1=true:=ax
def acO:eG prog 64 1 false=true:=ax
def ae4:bL prog 275 (TL aK []):=a8 are ax (fun _=>zTL)
def akj:pM prog 245 275 1=true:=ax
def SK:kA prog 245=true:=ax
def aky:qV prog 245 275 1 24=true:=ax
def We:Br prog 245 1=true:=ax
def acS:eG prog 275 1 false=true:=ax
def ahZ:qV prog 62 24 3 48=true:=ax
def abq:bL prog 252 (gn [TN (TL bm) [],TN (TL aq) [],TN bm []]):=a8 (.agg #[are,are,are]) ax (fun _=>⟨_,rfl,⟨are,[are,are],rfl,zTN,⟨are,[are],rfl,zTN,⟨are,[],rfl,zTN,rfl⟩⟩⟩⟩)
def afp:jI prog 252 [1,1,1]=true:=ax
def Ss:yu prog 253 159 4=true:=ax
def abC:bL prog 4 (aZ false):=a8 (.bool false) ax (fun _=>rfl)
def EX:jO prog 252 2 2=true:=ax
def Hk:eG prog 250 1 false=true:=ax
def EY:jO prog 252 0 0=true:=ax
def OK:eG prog 248 1 false=true:=ax
def ae5:bL prog 250 (TL bm []):=a8 are ax (fun _=>zTL)
def aki:pM prog 248 250 1=true:=ax
def SJ:kA prog 248=true:=ax
def akx:qV prog 248 250 1 24=true:=ax
def JR:jO prog 252 1 1=true:=ax
def SD:eG prog 249 1 false=true:=ax
def ae7:bL prog 185 (TL aq []):=a8 are ax (fun _=>zTL)
def akh:pM prog 249 185 1=true:=ax
def agr:kA prog 249=true:=ax
def akw:qV prog 249 185 1 24=true:=ax
def Zk:bL prog 173 (iV 1 false):=a8 (.pointer none) ax (fun _=>jw rfl rfl)
def akk:pM prog 200 173 1=true:=ax
def M8:kA prog 200=true:=ax
def akz:qV prog 200 173 1 8=true:=ax
def abT:Br prog 249 1=true:=ax
def abU:Br prog 248 1=true:=ax
def Nj:bL prog 177 (gn [iV 12 true,iV 12 true]):=a8 (.agg #[arf,are,arf,are,arf,are,arf,are,arf,are,arf,are,arf,are,arf,are,arf,are,arf,are,arf,are,arf,are]) ax (fun _=>⟨_,rfl,⟨(.agg #[arf,are,arf,are,arf,are,arf,are,arf,are,arf,are]),[arf,are,arf,are,arf,are,arf,are,arf,are,arf,are],rfl,jw rfl rfl,⟨(.agg #[arf,are,arf,are,arf,are,arf,are,arf,are,arf,are]),[],rfl,jw rfl rfl,rfl⟩⟩⟩)
def RV:jI prog 177 [12,12]=true:=ax
def Bu:bL prog 177 (iV 24 true):=a8 (.agg #[arf,are,arf,are,arf,are,arf,are,arf,are,arf,are,arf,are,arf,are,arf,are,arf,are,arf,are,arf,are]) ax (fun _=>jw rfl rfl)
def aeg:pM prog 172 177 24=true:=ax
def JF:kA prog 172=true:=ax
def aeo:qV prog 172 177 24 384=true:=ax
def aaW:Pe prog 100 98 0 0=true:=ax
def aaU:Pe prog 255 102 0 0=true:=ax
def Fg:bL prog 261 (iV 24 true):=a8 (.agg #[arf,are,arf,are,arf,are,arf,are,arf,are,arf,are,arf,are,arf,are,arf,are,arf,are,arf,are,arf,are]) ax (fun _=>jw rfl rfl)
def uK:jO prog 177 1 12=true:=ax
def nt:jO prog 177 0 0=true:=ax
def abx:bL prog 261 (gn [iV 12 true,iV 12 true]):=a8 (.agg #[arf,are,arf,are,arf,are,arf,are,arf,are,arf,are,arf,are,arf,are,arf,are,arf,are,arf,are,arf,are]) ax (fun _=>⟨_,rfl,⟨(.agg #[arf,are,arf,are,arf,are,arf,are,arf,are,arf,are]),[arf,are,arf,are,arf,are,arf,are,arf,are,arf,are],rfl,jw rfl rfl,⟨(.agg #[arf,are,arf,are,arf,are,arf,are,arf,are,arf,are]),[],rfl,jw rfl rfl,rfl⟩⟩⟩)
def afo:jI prog 261 [12,12]=true:=ax
def KE:eG prog 261 24 true=true:=ax
def aiU:eG prog 191 1 false=true:=ax
def akb:eN prog 226=true:=ax
def Cx:yu prog 339 24 3=true:=ax
def oH:kA prog 267=true:=ax
def HG:pM prog 267 269 8=true:=ax
def HK:qV prog 267 269 8 128=true:=ax
def so:jO prog 269 0 0=true:=ax
def Hj:eG prog 267 1 false=true:=ax
def Ch:Br prog 267 8=true:=ax
def nV:jO prog 269 1 4=true:=ax
def uB:eG prog 269 8 true=true:=ax
def mN:bL prog 269 (iV 8 true):=a8 (.agg #[arf,are,arf,are,arf,are,arf,are]) ax (fun _=>jw rfl rfl)
def aka:eN prog 240=true:=ax
def HY:bL prog 267 (TN aW []):=a8 are ax (fun _=>zTN)
def abo:bL prog 258 (iV 1 false):=a8 (.map none) ax (fun _=>jw rfl rfl)
def WK:eG prog 258 1 false=true:=ax
def CX:eG prog 173 1 false=true:=ax
def Wg:Br prog 172 24=true:=ax
def uC:eG prog 177 24 true=true:=ax
def uJ:jO prog 261 0 0=true:=ax
def EW:jO prog 261 1 12=true:=ax
def Rr:bL prog 265 (iD (([],[],[]),([],[],[]))):=a8 (.agg #[ard,ard,ard,ard,ard,ard]) ax (fun _=>⟨_,rfl,⟨(.agg #[ard,ard,ard]),[ard,ard,ard],rfl,⟨_,rfl,⟨ard,[ard,ard],rfl,rfl,⟨ard,[ard],rfl,rfl,⟨ard,[],rfl,rfl,rfl⟩⟩⟩⟩,⟨(.agg #[ard,ard,ard]),[],rfl,⟨_,rfl,⟨ard,[ard,ard],rfl,rfl,⟨ard,[ard],rfl,rfl,⟨ard,[],rfl,rfl,rfl⟩⟩⟩⟩,rfl⟩⟩⟩)
def afn:jI prog 265 [3,3]=true:=ax
def OJ:eG prog 265 6 true=true:=ax
def Yq:yu prog 257 265 261=true:=ax
def DQ:bL prog 269 (gn [iV 4 true,iV 4 true]):=a8 (.agg #[arf,are,arf,are,arf,are,arf,are]) ax (fun _=>⟨_,rfl,⟨(.agg #[arf,are,arf,are]),[arf,are,arf,are],rfl,jw rfl rfl,⟨(.agg #[arf,are,arf,are]),[],rfl,jw rfl rfl,rfl⟩⟩⟩)
def Iv:jI prog 269 [4,4]=true:=ax
def VW:(prog.info? 267).bind (·.zero)=some are:=ax
def Yp:yu prog 258 265 267=true:=ax
def abv:bL prog 325 (gn [iV 4 true,iV 4 true,iV 4 true]):=a8 (.agg #[arf,are,arf,are,arf,are,arf,are,arf,are,arf,are]) ax (fun _=>⟨_,rfl,⟨(.agg #[arf,are,arf,are]),[arf,are,arf,are,arf,are,arf,are],rfl,jw rfl rfl,⟨(.agg #[arf,are,arf,are]),[arf,are,arf,are],rfl,jw rfl rfl,⟨(.agg #[arf,are,arf,are]),[],rfl,jw rfl rfl,rfl⟩⟩⟩⟩)
def afm:jI prog 325 [4,4,4]=true:=ax
def Ff:bL prog 325 (iV 12 true):=a8 (.agg #[arf,are,arf,are,arf,are,arf,are,arf,are,arf,are]) ax (fun _=>jw rfl rfl)
def KD:eG prog 325 12 true=true:=ax
def zR:jO prog 325 1 4=true:=ax
def ET:jO prog 325 2 8=true:=ax
def akg:pM prog 323 325 12=true:=ax
def SI:kA prog 323=true:=ax
def akv:qV prog 323 325 12 192=true:=ax
def Wd:Br prog 323 12=true:=ax
def EU:jO prog 325 0 0=true:=ax
def Wf:Br prog 200 1=true:=ax
def abu:bL prog 328 (gn [iV 8 true,iV 8 true]):=a8 (.agg #[arf,are,arf,are,arf,are,arf,are,arf,are,arf,are,arf,are,arf,are]) ax (fun _=>⟨_,rfl,⟨(.agg #[arf,are,arf,are,arf,are,arf,are]),[arf,are,arf,are,arf,are,arf,are],rfl,jw rfl rfl,⟨(.agg #[arf,are,arf,are,arf,are,arf,are]),[],rfl,jw rfl rfl,rfl⟩⟩⟩)
def afl:jI prog 328 [8,8]=true:=ax
def Qz:bL prog 328 (iV 16 true):=a8 (.agg #[arf,are,arf,are,arf,are,arf,are,arf,are,arf,are,arf,are,arf,are]) ax (fun _=>jw rfl rfl)
def Hi:eG prog 328 16 true=true:=ax
def Pa:jO prog 328 0 0=true:=ax
def O9:jO prog 328 1 8=true:=ax
def Rq:bL prog 329 (bM (([],[]),([],[]))):=a8 (.agg #[ard,ard,ard,ard]) ax (fun _=>⟨_,rfl,⟨(.agg #[ard,ard]),[ard,ard],rfl,⟨_,rfl,⟨ard,[ard],rfl,rfl,⟨ard,[],rfl,rfl,rfl⟩⟩⟩,⟨(.agg #[ard,ard]),[],rfl,⟨_,rfl,⟨ard,[ard],rfl,rfl,⟨ard,[],rfl,rfl,rfl⟩⟩⟩,rfl⟩⟩⟩)
def aks:zT prog 329 2 2=true:=ax
def Hh:eG prog 329 4 true=true:=ax
def Vp:jO prog 237 0 0=true:=ax
def acT:eG prog 234 1 false=true:=ax
def Yr:yu prog 234 329 328=true:=ax
def Vn:jO prog 237 2 2=true:=ax
def SE:eG prog 235 1 false=true:=ax
def MF:yu prog 235 329 267=true:=ax
def Vo:jO prog 237 1 1=true:=ax
def akd:eN prog 154=true:=ax
def EZ:jO prog 146 2 16=true:=ax
def E1:jO prog 146 0 0=true:=ax
def E0:jO prog 146 1 8=true:=ax
def Nk:bL prog 146 (gn [iV 8 true,iV 8 true,iV 1 false]):=a8 (.agg #[arf,are,arf,are,arf,are,arf,are,arf,are,arf,are,arf,are,arf,are,.bool false]) ax (fun _=>⟨_,rfl,⟨(.agg #[arf,are,arf,are,arf,are,arf,are]),[arf,are,arf,are,arf,are,arf,are,.bool false],rfl,jw rfl rfl,⟨(.agg #[arf,are,arf,are,arf,are,arf,are]),[.bool false],rfl,jw rfl rfl,⟨(.bool false),[],rfl,jw rfl rfl,rfl⟩⟩⟩⟩)
def RX:jI prog 146 [8,8,1]=true:=ax
def Bv:bL prog 146 (iV 17 true):=a8 (.agg #[arf,are,arf,are,arf,are,arf,are,arf,are,arf,are,arf,are,arf,are,.bool false]) ax (fun _=>jw rfl rfl)
def aeh:pM prog 169 146 17=true:=ax
def M9:kA prog 169=true:=ax
def aep:qV prog 169 146 17 264=true:=ax
def ae6:bL prog 200 (TL (TP eC) []):=a8 are ax (fun _=>zTL)
def SF:eG prog 200 1 false=true:=ax
def aby:bL prog 237 (gn [iV 1 false,iV 1 false,iV 1 false]):=a8 (.agg #[.map none,.map none,.map none]) ax (fun _=>⟨_,rfl,⟨(.map none),[.map none,.map none],rfl,jw rfl rfl,⟨(.map none),[.map none],rfl,jw rfl rfl,⟨(.map none),[],rfl,jw rfl rfl,rfl⟩⟩⟩⟩)
def afq:jI prog 237 [1,1,1]=true:=ax
def abp:bL prog 233 (iV 1 false):=a8 (.pointer none) ax (fun _=>jw rfl rfl)
def WL:eG prog 233 1 false=true:=ax
def ail:Br prog 169 17=true:=ax
def KG:eG prog 146 17 true=true:=ax
def GX:bL prog 50 (gR (([],[]),([],[]),false)):=a8 (.agg #[ard,ard,ard,ard,.bool false]) ax (fun _=>⟨_,rfl,⟨(.agg #[ard,ard]),[ard,ard,.bool false],rfl,⟨_,rfl,⟨ard,[ard],rfl,rfl,⟨ard,[],rfl,rfl,rfl⟩⟩⟩,⟨(.agg #[ard,ard]),[.bool false],rfl,⟨_,rfl,⟨ard,[ard],rfl,rfl,⟨ard,[],rfl,rfl,rfl⟩⟩⟩,⟨(.bool false),[],rfl,rfl,rfl⟩⟩⟩⟩)
def abK:jI prog 50 [2,2,1]=true:=ax
def ahX:pM prog 47 50 5=true:=ax
def Hm:kA prog 47=true:=ax
def ano:qV prog 47 50 5 72=true:=ax
def XI:bL prog 178 (qp (([],[],[]),([],[],[]))):=a8 (.agg #[ard,ard,ard,ard,ard,ard]) ax (fun _=>⟨_,rfl,⟨(.agg #[ard,ard,ard]),[ard,ard,ard],rfl,⟨_,rfl,⟨ard,[ard,ard],rfl,rfl,⟨ard,[ard],rfl,rfl,⟨ard,[],rfl,rfl,rfl⟩⟩⟩⟩,⟨(.agg #[ard,ard,ard]),[],rfl,⟨_,rfl,⟨ard,[ard,ard],rfl,rfl,⟨ard,[ard],rfl,rfl,⟨ard,[],rfl,rfl,rfl⟩⟩⟩⟩,rfl⟩⟩⟩)
def aku:zT prog 178 2 3=true:=ax
def ani:pM prog 77 178 6=true:=ax
def ac2:kA prog 77=true:=ax
def anm:qV prog 77 178 6 96=true:=ax
def acR:eG prog 350 1 false=true:=ax
def aj9:eN prog 245=true:=ax
def sH:kA prog 184=true:=ax
def Kl:Br prog 184 8=true:=ax
def XC:pM prog 184 144 8=true:=ax
def Ta:qV prog 184 144 8 128=true:=ax
def ake:eN prog 105=true:=ax
def anh:pM prog 81 48 2=true:=ax
def Hl:kA prog 81=true:=ax
def anl:qV prog 81 48 2 32=true:=ax
def X6:Br prog 81 2=true:=ax
def aov:mkB prog 85 22 1 16=true:=ax
def Rs:bL prog 22 (TS []):=a8 ard ax (fun _=>rfl)
def FV:jO prog 50 0 0=true:=ax
def FU:jO prog 50 1 2=true:=ax
def Y2:jO prog 50 2 4=true:=ax
def T4:Br prog 47 5=true:=ax
def GQ:eG prog 50 5 true=true:=ax
def aee:pM prog 85 22 1=true:=ax
def aaV:Pe prog 109 102 3 36=true:=ax
def Fh:bL prog 104 (iV 48 true):=a8 (.agg #[arf,are,arf,are,arf,are,arf,are,arf,are,arf,are,arf,are,arf,are,arf,are,arf,are,arf,are,arf,are,arf,are,arf,are,arf,are,arf,are,arf,are,arf,are,arf,are,arf,are,arf,are,arf,are,arf,are,arf,are]) ax (fun _=>jw rfl rfl)
def FW:jO prog 28 0 0=true:=ax
def pG:jO prog 28 1 3=true:=ax
def uI:jO prog 28 2 6=true:=ax
def uH:jO prog 28 3 9=true:=ax
def abA:bL prog 104 (gn [iV 12 true,iV 12 true,iV 12 true,iV 12 true]):=a8 (.agg #[arf,are,arf,are,arf,are,arf,are,arf,are,arf,are,arf,are,arf,are,arf,are,arf,are,arf,are,arf,are,arf,are,arf,are,arf,are,arf,are,arf,are,arf,are,arf,are,arf,are,arf,are,arf,are,arf,are,arf,are]) ax (fun _=>⟨_,rfl,⟨(.agg #[arf,are,arf,are,arf,are,arf,are,arf,are,arf,are]),[arf,are,arf,are,arf,are,arf,are,arf,are,arf,are,arf,are,arf,are,arf,are,arf,are,arf,are,arf,are,arf,are,arf,are,arf,are,arf,are,arf,are,arf,are],rfl,jw rfl rfl,⟨(.agg #[arf,are,arf,are,arf,are,arf,are,arf,are,arf,are]),[arf,are,arf,are,arf,are,arf,are,arf,are,arf,are,arf,are,arf,are,arf,are,arf,are,arf,are,arf,are],rfl,jw rfl rfl,⟨(.agg #[arf,are,arf,are,arf,are,arf,are,arf,are,arf,are]),[arf,are,arf,are,arf,are,arf,are,arf,are,arf,are],rfl,jw rfl rfl,⟨(.agg #[arf,are,arf,are,arf,are,arf,are,arf,are,arf,are]),[],rfl,jw rfl rfl,rfl⟩⟩⟩⟩⟩)
def aft:jI prog 104 [12,12,12,12]=true:=ax
def xG:eG prog 104 48 true=true:=ax
def xi:jO prog 104 1 12=true:=ax
def uM:jO prog 104 2 24=true:=ax
def uL:jO prog 104 3 36=true:=ax
def abw:bL prog 303 (gn [iV 12 true,iV 12 true,iV 12 true]):=a8 (.agg #[arf,are,arf,are,arf,are,arf,are,arf,are,arf,are,arf,are,arf,are,arf,are,arf,are,arf,are,arf,are,arf,are,arf,are,arf,are,arf,are,arf,are,arf,are]) ax (fun _=>⟨_,rfl,⟨(.agg #[arf,are,arf,are,arf,are,arf,are,arf,are,arf,are]),[arf,are,arf,are,arf,are,arf,are,arf,are,arf,are,arf,are,arf,are,arf,are,arf,are,arf,are,arf,are],rfl,jw rfl rfl,⟨(.agg #[arf,are,arf,are,arf,are,arf,are,arf,are,arf,are]),[arf,are,arf,are,arf,are,arf,are,arf,are,arf,are],rfl,jw rfl rfl,⟨(.agg #[arf,are,arf,are,arf,are,arf,are,arf,are,arf,are]),[],rfl,jw rfl rfl,rfl⟩⟩⟩⟩)
def akt:zT prog 303 3 12=true:=ax
def agY:Vu prog 303 102 3 12=true:=ax
def akc:eN prog 196=true:=ax
def tr:eG prog 28 12 true=true:=ax
def adT:jO prog 104 0 0=true:=ax
def HZ:bL prog 117 (gn [iV 12 true,iV 12 true]):=a8 (.agg #[arf,are,arf,are,arf,are,arf,are,arf,are,arf,are,arf,are,arf,are,arf,are,arf,are,arf,are,arf,are]) ax (fun _=>⟨_,rfl,⟨(.agg #[arf,are,arf,are,arf,are,arf,are,arf,are,arf,are]),[arf,are,arf,are,arf,are,arf,are,arf,are,arf,are],rfl,jw rfl rfl,⟨(.agg #[arf,are,arf,are,arf,are,arf,are,arf,are,arf,are]),[],rfl,jw rfl rfl,rfl⟩⟩⟩)
def Mm:jI prog 117 [12,12]=true:=ax
def QA:bL prog 117 (iV 24 true):=a8 (.agg #[arf,are,arf,are,arf,are,arf,are,arf,are,arf,are,arf,are,arf,are,arf,are,arf,are,arf,are,arf,are]) ax (fun _=>jw rfl rfl)
def akl:pM prog 119 117 24=true:=ax
def ags:kA prog 119=true:=ax
def ain:Br prog 119 24=true:=ax
def acU:eG prog 117 24 true=true:=ax
def adS:jO prog 117 0 0=true:=ax
def adR:jO prog 117 1 12=true:=ax
def ahY:pM prog 35 26 9=true:=ax
def SH:kA prog 35=true:=ax
def anp:qV prog 35 26 9 144=true:=ax
def VX:bL prog 64 (TL bF []):=a8 are ax (fun _=>zTL)
def aef:pM prog 67 64 1=true:=ax
def abB:bL prog 67 (TL (TL bF) []):=a8 are ax (fun _=>zTL)
def ahW:pM prog 76 67 1=true:=ax
def ah2:bL prog 28 (iE (([],[],[]),([],[],[]),([],[],[]),([],[],[]))):=a8 (.agg #[ard,ard,ard,ard,ard,ard,ard,ard,ard,ard,ard,ard]) ax (fun _=>⟨_,rfl,⟨(.agg #[ard,ard,ard]),[ard,ard,ard,ard,ard,ard,ard,ard,ard],rfl,⟨_,rfl,⟨ard,[ard,ard],rfl,rfl,⟨ard,[ard],rfl,rfl,⟨ard,[],rfl,rfl,rfl⟩⟩⟩⟩,⟨(.agg #[ard,ard,ard]),[ard,ard,ard,ard,ard,ard],rfl,⟨_,rfl,⟨ard,[ard,ard],rfl,rfl,⟨ard,[ard],rfl,rfl,⟨ard,[],rfl,rfl,rfl⟩⟩⟩⟩,⟨(.agg #[ard,ard,ard]),[ard,ard,ard],rfl,⟨_,rfl,⟨ard,[ard,ard],rfl,rfl,⟨ard,[ard],rfl,rfl,⟨ard,[],rfl,rfl,rfl⟩⟩⟩⟩,⟨(.agg #[ard,ard,ard]),[],rfl,⟨_,rfl,⟨ard,[ard,ard],rfl,rfl,⟨ard,[ard],rfl,rfl,⟨ard,[],rfl,rfl,rfl⟩⟩⟩⟩,rfl⟩⟩⟩⟩⟩)
def aif:jI prog 28 [3,3,3,3]=true:=ax
def abS:Br prog 35 9=true:=ax
def acI:mkB prog 120 3 1 8=true:=ax
abbrev cw[D:DR](f:Nat)(a:List Ty)(r:List Ty):Prop:=fC prog f a (.vs r)
end Trn
