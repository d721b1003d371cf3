/-
  Part of the proof of SolidNormals.
-/
import Derived.Test.YtflhfjdapojoiaaGreatDoorEc
import Derived.Test.YtflhfjdapojoiaaGreatDoorProg
set_option maxRecDepth 100000
set_option maxHeartbeats 20000000
set_option linter.all false
open Go Go.RowKit Go.Proofs Go.Proofs.Tryz
namespace Trn
abbrev arT:Value:= .int .i64 0
abbrev arS:Value:= .slice none 0 0
abbrev arR:Value:= .string ⟨#[]⟩
def mixed:prog.follows .mixedOrders=true:=aH
@[reducible] def qi(x:Int×Int×Int):Ty:=ko [TiZ x.1,TiZ x.2.1,TiZ x.2.2]
@[reducible] def aq(x:(Int×Int×Int)×ad3):Ty:=ko [qi x.1,TS x.2]
@[reducible] def ay(x:Rat×Rat×Rat):Ty:=ko [cd x.1,cd x.2.1,cd x.2.2]
@[reducible] def bI(x:V3×Rat):Ty:=ko [ay x.1,cd x.2]
@[reducible] def CS(x:(Int×att Int)×(Int×att Int)):Ty:=ko [a7 x.1,a7 x.2]
@[reducible] def az(x:(V3×Rat)×(att V3)):Ty:=ko [bI x.1,(TL ay) x.2]
@[reducible] def YL(x:Int×Int):Ty:=ko [TiZ x.1,TiZ x.2]
@[reducible] def IL(x:V3×V3):Ty:=ko [ay x.1,ay x.2]
@[reducible] def bb(x:ad3×ad3×ad3):Ty:=ko [TS x.1,TS x.2.1,TS x.2.2]
@[reducible] def iH(x:(Int×Int×Int)×ad3):Ty:=ko [qi x.1,TS x.2]
@[reducible] def fA(x:((Int×Int×Int)×ad3)×av5):Ty:=ko [aq x.1,bb x.2]
@[reducible] def bk(x:Bool×att Int):Ty:=ko [bj x.1,(TL TiZ) x.2]
@[reducible] def nv(x:(att ((Int×Int×Int)×ad3))×(att av5)×(att (att Int))):Ty:=ko [(TL aq) x.1,(TL bb) x.2.1,(TL (TL TiZ)) x.2.2]
def p6:mI prog 25=true:=aH
def G7:G9 prog 25 4=true:=aH
def od:vF prog 49 1 3=true:=aH
def gp:fM prog 47 1 false=true:=aH
def vm:isStr prog 47=true:=aH
def qo:fj prog 49 (aq ((0,0,0),[])):=dF (.agg #[arT,arT,arT,arR]) aH (fun _=>⟨_,rfl,⟨(.agg #[arT,arT,arT]),[arR],rfl,⟨_,rfl,⟨arT,[arT,arT],rfl,rfl,⟨arT,[arT],rfl,rfl,⟨arT,[],rfl,rfl,rfl⟩⟩⟩⟩,⟨arR,[],rfl,rfl,rfl⟩⟩⟩)
def Qr:fj prog 46 (qi (0,0,0)):=dF (.agg #[arT,arT,arT]) aH (fun _=>⟨_,rfl,⟨arT,[arT,arT],rfl,rfl,⟨arT,[arT],rfl,rfl,⟨arT,[],rfl,rfl,rfl⟩⟩⟩⟩)
def pH:Fw prog 46 3 1=true:=aH
def QJ:sV prog 49 [3,1]=true:=aH
def ji:fM prog 49 4 true=true:=aH
def adP:xM prog 25 49 4=true:=aH
def gH:fj prog 93 (a7 (0,[])):=dF (.agg #[arT,arS]) aH (fun _=>⟨_,rfl,⟨arT,[arS],rfl,rfl,⟨arS,[],rfl,zTN,rfl⟩⟩⟩)
def vR:sV prog 93 [1,1]=true:=aH
def g:fM prog 93 2 true=true:=aH
def Kd:Uc prog 3 .i64=true:=aH
def E8:Uc prog 255 .u64=true:=aH
def po:vF prog 93 1 1=true:=aH
def zA:fM prog 91 1 false=true:=aH
def dK:mI prog 91=true:=aH
def gQ:vF prog 93 0 0=true:=aH
def B:fM prog 3 1 false=true:=aH
def yf:fj prog 255 (TI .u64 0):=dF (.int .u64 0) aH (fun _=>rfl)
def adN:xM prog 91 255 1=true:=aH
def fG:G9 prog 91 1=true:=aH
def dx:fM prog 255 1 false=true:=aH
def agb:Uc prog 200 .u64=true:=aH
def ZQ:mkB prog 91 255 1 8=true:=aH
def akb:fR prog 285=true:=aH
def E6:Qi prog 4=true:=aH
def X:isStr prog 9=true:=aH
def XZ:mI prog 178=true:=aH
def abi:G9 prog 178 1=true:=aH
def ahy:fM prog 26 1 false=true:=aH
def iN:vF prog 49 0 0=true:=aH
def vJ:fM prog 46 3 true=true:=aH
def ajY:Yv prog 46 3 3 1=true:=aH
def L4:fj prog 26 (TiZ 0):=dF arT aH (fun _=>rfl)
def N1:xM prog 178 26 1=true:=aH
def mi:mI prog 22=true:=aH
def p8:G9 prog 22 4=true:=aH
def dC:mI prog 170=true:=aH
def fD:G9 prog 170 1=true:=aH
def xR:fj prog 3 (TiZ 0):=dF arT aH (fun _=>rfl)
def vt:xM prog 170 3 1=true:=aH
def dm:fj prog 95 (Bg 4 true):=dF (.agg #[arT,arS,arT,arS]) aH (fun _=>Dk rfl rfl)
def Qq:fj prog 95 (ko [Bg 2 true,Bg 2 true]):=dF (.agg #[arT,arS,arT,arS]) aH (fun _=>⟨_,rfl,⟨(.agg #[arT,arS]),[arT,arS],rfl,Dk rfl rfl,⟨(.agg #[arT,arS]),[],rfl,Dk rfl rfl,rfl⟩⟩⟩)
def MA:sV prog 95 [2,2]=true:=aH
def d:fM prog 95 4 true=true:=aH
def bK:fj prog 97 (Bg 12 true):=dF (.agg #[arT,arS,arT,arS,arT,arS,arT,arS,arT,arS,arT,arS]) aH (fun _=>Dk rfl rfl)
def zR:fj prog 97 (ko [Bg 4 true,Bg 4 true,Bg 4 true]):=dF (.agg #[arT,arS,arT,arS,arT,arS,arT,arS,arT,arS,arT,arS]) aH (fun _=>⟨_,rfl,⟨(.agg #[arT,arS,arT,arS]),[arT,arS,arT,arS,arT,arS,arT,arS],rfl,Dk rfl rfl,⟨(.agg #[arT,arS,arT,arS]),[arT,arS,arT,arS],rfl,Dk rfl rfl,⟨(.agg #[arT,arS,arT,arS]),[],rfl,Dk rfl rfl,rfl⟩⟩⟩⟩)
def Z:Fw prog 97 3 4=true:=aH
def m:fM prog 97 12 true=true:=aH
def iZ:fj prog 111 (Bg 16 true):=dF (.agg #[arT,arS,arT,arS,arT,arS,arT,arS,arT,arS,arT,arS,arT,arS,arT,arS]) aH (fun _=>Dk rfl rfl)
def w7:fj prog 111 (ko [Bg 12 true,Bg 4 true]):=dF (.agg #[arT,arS,arT,arS,arT,arS,arT,arS,arT,arS,arT,arS,arT,arS,arT,arS]) aH (fun _=>⟨_,rfl,⟨(.agg #[arT,arS,arT,arS,arT,arS,arT,arS,arT,arS,arT,arS]),[arT,arS,arT,arS],rfl,Dk rfl rfl,⟨(.agg #[arT,arS,arT,arS]),[],rfl,Dk rfl rfl,rfl⟩⟩⟩)
def zY:sV prog 111 [12,4]=true:=aH
def gq:fM prog 111 16 true=true:=aH
def JH:xM prog 136 111 16=true:=aH
def rC:mI prog 136=true:=aH
def JN:vA prog 136 111 16 256=true:=aH
def pn:vF prog 95 0 0=true:=aH
def n9:vF prog 95 1 2=true:=aH
def Ip:mI prog 221=true:=aH
def VB:G9 prog 221 4=true:=aH
def WZ:xM prog 221 95 4=true:=aH
def Xc:vA prog 221 95 4 64=true:=aH
def ake:fR prog 162=true:=aH
def L2:fj prog 95 (CS ((0,[]),(0,[]))):=dF (.agg #[arT,arS,arT,arS]) aH (fun _=>⟨_,rfl,⟨(.agg #[arT,arS]),[arT,arS],rfl,⟨_,rfl,⟨arT,[arS],rfl,rfl,⟨arS,[],rfl,zTN,rfl⟩⟩⟩,⟨(.agg #[arT,arS]),[],rfl,⟨_,rfl,⟨arT,[arS],rfl,rfl,⟨arS,[],rfl,zTN,rfl⟩⟩⟩,rfl⟩⟩⟩)
def nU:fM prog 114 1 false=true:=aH
def iW:mI prog 114=true:=aH
def lf:G9 prog 114 12=true:=aH
def akc:fR prog 262=true:=aH
def zH:xM prog 114 97 12=true:=aH
def xO:vA prog 114 97 12 192=true:=aH
def alI:Uc prog 5 .u8=true:=aH
def Ez:fj prog 211 (YL (0,0)):=dF (.agg #[arT,arT]) aH (fun _=>⟨_,rfl,⟨arT,[arT],rfl,rfl,⟨arT,[],rfl,rfl,rfl⟩⟩⟩)
def JM:Fw prog 211 2 1=true:=aH
def akg:xM prog 212 211 2=true:=aH
def af8:mI prog 212=true:=aH
def air:G9 prog 212 2=true:=aH
def acd:fM prog 211 2 true=true:=aH
def L1:fj prog 116 (ko [Bg 16 true,Bg 1 false]):=dF (.agg #[arT,arS,arT,arS,arT,arS,arT,arS,arT,arS,arT,arS,arT,arS,arT,arS,arS]) aH (fun _=>⟨_,rfl,⟨(.agg #[arT,arS,arT,arS,arT,arS,arT,arS,arT,arS,arT,arS,arT,arS,arT,arS]),[arS],rfl,Dk rfl rfl,⟨arS,[],rfl,Dk rfl rfl,rfl⟩⟩⟩)
def QK:sV prog 116 [16,1]=true:=aH
def lN:fj prog 116 (Bg 17 true):=dF (.agg #[arT,arS,arT,arS,arT,arS,arT,arS,arT,arS,arT,arS,arT,arS,arT,arS,arS]) aH (fun _=>Dk rfl rfl)
def adO:xM prog 75 116 17=true:=aH
def vn:mI prog 75=true:=aH
def adW:vA prog 75 116 17 280=true:=aH
def kX:vF prog 111 0 0=true:=aH
def pF:vF prog 111 1 12=true:=aH
def aaY:fj prog 193 (ko [Bg 12 true,Bg 12 true]):=dF (.agg #[arT,arS,arT,arS,arT,arS,arT,arS,arT,arS,arT,arS,arT,arS,arT,arS,arT,arS,arT,arS,arT,arS,arT,arS]) aH (fun _=>⟨_,rfl,⟨(.agg #[arT,arS,arT,arS,arT,arS,arT,arS,arT,arS,arT,arS]),[arT,arS,arT,arS,arT,arS,arT,arS,arT,arS,arT,arS],rfl,Dk rfl rfl,⟨(.agg #[arT,arS,arT,arS,arT,arS,arT,arS,arT,arS,arT,arS]),[],rfl,Dk rfl rfl,rfl⟩⟩⟩)
def CN:Fw prog 193 2 12=true:=aH
def akd:fR prog 190=true:=aH
def aaX:fj prog 114 (TN ay []):=dF arS aH (fun _=>zTN)
def Pc:fj prog 193 (Bg 24 true):=dF (.agg #[arT,arS,arT,arS,arT,arS,arT,arS,arT,arS,arT,arS,arT,arS,arT,arS,arT,arS,arT,arS,arT,arS,arT,arS]) aH (fun _=>Dk rfl rfl)
def ace:fM prog 193 24 true=true:=aH
def FK:G9 prog 75 17=true:=aH
def oL:fM prog 116 17 true=true:=aH
def vq:vF prog 116 1 16=true:=aH
def qQ:vF prog 116 0 0=true:=aH
def F8:G9 prog 136 16=true:=aH
def RY:Yv prog 97 95 3 4=true:=aH
def Ec:mI prog 41=true:=aH
def FL:G9 prog 41 1=true:=aH
def FW:fM prog 25 1 false=true:=aH
def L3:fj prog 75 (TL az []):=dF arS aH (fun _=>zTL)
def UR:xM prog 87 75 1=true:=aH
def oN:mI prog 87=true:=aH
def Qn:vA prog 87 75 1 24=true:=aH
def Bv:G9 prog 87 1=true:=aH
def C5:fM prog 75 1 false=true:=aH
def akV:fj prog 9 (TS []):=dF arR aH (fun _=>rfl)
def akf:xM prog 293 9 1=true:=aH
def XX:mI prog 293=true:=aH
def ako:vA prog 293 9 1 16=true:=aH
def aeG:(prog.info? 301).bind (·.zero)=some (.agg #[.pointer none,arS]):=aH
def aiq:G9 prog 293 1=true:=aH
def aoA:fM prog 9 1 false=true:=aH
def adf:Wz prog 95 93 0 0=true:=aH
def acf:fM prog 155 1 false=true:=aH
def anh:fR prog 93=true:=aH
def ant:vA prog 25 49 4 40=true:=aH
def Qs:fj prog 25 (TL aq []):=dF arS aH (fun _=>zTL)
def YD:xM prog 41 25 1=true:=aH
def anq:vA prog 41 25 1 24=true:=aH
def fS:fj prog 58 (bb ([],[],[])):=dF (.agg #[arR,arR,arR]) aH (fun _=>⟨_,rfl,⟨arR,[arR,arR],rfl,rfl,⟨arR,[arR],rfl,rfl,⟨arR,[],rfl,rfl,rfl⟩⟩⟩⟩)
def gG:Fw prog 58 3 1=true:=aH
def C:fM prog 58 3 true=true:=aH
def Qt:fj prog 125 (iH ((0,0,0),[])):=dF (.agg #[arT,arT,arT,arR]) aH (fun _=>⟨_,rfl,⟨(.agg #[arT,arT,arT]),[arR],rfl,⟨_,rfl,⟨arT,[arT,arT],rfl,rfl,⟨arT,[arT],rfl,rfl,⟨arT,[],rfl,rfl,rfl⟩⟩⟩⟩,⟨arR,[],rfl,rfl,rfl⟩⟩⟩)
def ae2:sV prog 125 [3,1]=true:=aH
def RG:fM prog 125 4 true=true:=aH
def Rs:TT prog 122 125 97=true:=aH
def LW:vF prog 72 0 0=true:=aH
def adh:vF prog 125 0 0=true:=aH
def adg:vF prog 125 1 3=true:=aH
def Vj:fj prog 72 (fA (((0,0,0),[]),([],[],[]))):=dF (.agg #[arT,arT,arT,arR,arR,arR,arR]) aH (fun _=>⟨_,rfl,⟨(.agg #[arT,arT,arT,arR]),[arR,arR,arR],rfl,⟨_,rfl,⟨(.agg #[arT,arT,arT]),[arR],rfl,⟨_,rfl,⟨arT,[arT,arT],rfl,rfl,⟨arT,[arT],rfl,rfl,⟨arT,[],rfl,rfl,rfl⟩⟩⟩⟩,⟨arR,[],rfl,rfl,rfl⟩⟩⟩,⟨(.agg #[arR,arR,arR]),[],rfl,⟨_,rfl,⟨arR,[arR,arR],rfl,rfl,⟨arR,[arR],rfl,rfl,⟨arR,[],rfl,rfl,rfl⟩⟩⟩⟩,rfl⟩⟩⟩)
def abb:sV prog 72 [4,3]=true:=aH
def ank:xM prog 61 72 7=true:=aH
def acm:mI prog 61=true:=aH
def anp:vA prog 61 72 7 88=true:=aH
def XY:mI prog 207=true:=aH
def abh:G9 prog 207 1=true:=aH
def ahw:fM prog 87 1 false=true:=aH
def ah5:fj prog 87 (TL (TL az) []):=dF arS aH (fun _=>zTL)
def akh:xM prog 207 87 1=true:=aH
def af9:mI prog 210=true:=aH
def ais:G9 prog 210 1=true:=aH
def kc:fj prog 217 (bk (false,[])):=dF (.agg #[.bool false,arS]) aH (fun _=>⟨_,rfl,⟨(.bool false),[arS],rfl,rfl,⟨arS,[],rfl,zTL,rfl⟩⟩⟩)
def ae1:sV prog 217 [1,1]=true:=aH
def dW:fM prog 217 2 true=true:=aH
def Eo:vA prog 170 3 1 8=true:=aH
def iP:vF prog 217 1 1=true:=aH
def mG:fM prog 170 1 false=true:=aH
def qP:vF prog 217 0 0=true:=aH
def Nn:fM prog 4 1 false=true:=aH
def Ed:mI prog 32=true:=aH
def Pt:G9 prog 32 3=true:=aH
def ah0:xM prog 32 58 3=true:=aH
def US:xM prog 22 49 4=true:=aH
def Qo:vA prog 22 49 4 40=true:=aH
def alj:G9 prog 61 7=true:=aH
def alA:fM prog 72 7 true=true:=aH
def ab0:mkB prog 170 3 1 8=true:=aH
def ans:vA prog 32 58 3 48=true:=aH
def IV:fj prog 35 (nv ([],[],[])):=dF (.agg #[arS,arS,arS]) aH (fun _=>⟨_,rfl,⟨arS,[arS,arS],rfl,zTL,⟨arS,[arS],rfl,zTL,⟨arS,[],rfl,zTL,rfl⟩⟩⟩⟩)
def aeE:fj prog 35 (ko [TN aq [],TN bb [],TN (TL TiZ) []]):=dF (.agg #[arS,arS,arS]) aH (fun _=>⟨_,rfl,⟨arS,[arS,arS],rfl,zTN,⟨arS,[arS],rfl,zTN,⟨arS,[],rfl,zTN,rfl⟩⟩⟩⟩)
def Iz:vF prog 35 0 0=true:=aH
def Ua:fM prog 22 1 false=true:=aH
def agP:vF prog 35 1 1=true:=aH
def alB:fM prog 32 1 false=true:=aH
def Yp:vF prog 35 2 2=true:=aH
def ahx:fM prog 33 1 false=true:=aH
def aeF:fj prog 170 (TL TiZ []):=dF arS aH (fun _=>zTL)
def anl:xM prog 33 170 1=true:=aH
def ai3:mI prog 33=true:=aH
def anr:vA prog 33 170 1 24=true:=aH
def Ea:fM prog 35 3 true=true:=aH
def abc:sV prog 35 [1,1,1]=true:=aH
abbrev c8[D:DR](f:Nat)(a:List Ty)(r:List Ty):Prop:=fN prog f a (.vs r)
end Trn
