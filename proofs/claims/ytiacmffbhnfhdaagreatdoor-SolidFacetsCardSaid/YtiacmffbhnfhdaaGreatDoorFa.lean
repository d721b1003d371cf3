/-
  Part of the proof of SolidFacets.
-/
import Derived.Test.YtiacmffbhnfhdaaGreatDoorEd
import Derived.Test.YtiacmffbhnfhdaaGreatDoorProg
set_option maxRecDepth 100000
set_option maxHeartbeats 20000000
set_option linter.all false
open Go Go.RowKit Go.Proofs Go.Proofs.Tryz
namespace Trn
abbrev Af:Value:= .int .i64 0
abbrev Ak:Value:= .slice none 0 0
abbrev FG:Value:= .string ⟨#[]⟩
def mixed:prog.follows .mixedOrders=true:=A6
@[reducible] def KJ(x:Int×Int×Int):Ty:=DG [TiZ x.1,TiZ x.2.1,TiZ x.2.2]
@[reducible] def Ao(x:(Int×Int×Int)×AB):Ty:=DG [KJ x.1,TS x.2]
@[reducible] def JM(x:Bool×A3 Int):Ty:=DG [Ay x.1,(TL TiZ) x.2]
@[reducible] def BP(x:AB×AB×AB):Ty:=DG [TS x.1,TS x.2.1,TS x.2.2]
@[reducible] def Ny(x:ShZ):Ty:=DG [(TL Ao) x.1,(TL BP) x.2.1,(TL (TL TiZ)) x.2.2]
@[reducible] def Av(x:Rat×Rat×Rat):Ty:=DG [Br x.1,Br x.2.1,Br x.2.2]
@[reducible] def Et(x:V3×Rat):Ty:=DG [Av x.1,Br x.2]
@[reducible] def eL(x:(Int×A3 Int)×(Int×A3 Int)):Ty:=DG [CX x.1,CX x.2]
@[reducible] def BV(x:PlZ×(A3 V3)):Ty:=DG [Et x.1,(TL Av) x.2]
@[reducible] def aaP(x:Int×Int):Ty:=DG [TiZ x.1,TiZ x.2]
@[reducible] def vJ(x:V3×V3):Ty:=DG [Av x.1,Av x.2]
@[reducible] def N5(x:(Int×Int×Int)×AB):Ty:=DG [KJ x.1,TS x.2]
@[reducible] def Kn(x:HfZ×BU):Ty:=DG [Ao x.1,BP x.2]
def IG:Dx prog 45=true:=A6
def Qh:G7 prog 45 4=true:=A6
def Kv:Ga prog 37 1 3=true:=A6
def CW:Bm prog 35 1 false=true:=A6
def MB:isStr prog 35=true:=A6
def MI:Dx prog 23=true:=A6
def L5:G7 prog 23 1=true:=A6
def L7:Bm prog 45 1 false=true:=A6
def Ck:isStr prog 9=true:=A6
def aqh:Sg prog 5 .u8=true:=A6
def SM:Sg prog 3 .i64=true:=A6
def DA:Dx prog 95=true:=A6
def DC:G7 prog 95 1=true:=A6
def V:Bm prog 3 1 false=true:=A6
def Ig:Dk prog 200 (JM (false,[])):=FV (.agg #[.bool false,Ak]) A6 (λ_=>⟨_,rfl,⟨(.bool false),[Ak],rfl,rfl,⟨Ak,[],rfl,zTL,rfl⟩⟩⟩)
def alp:ND prog 200 [1,1]=true:=A6
def DW:Bm prog 200 2 true=true:=A6
def Hs:Dk prog 3 (TiZ 0):=FV Af A6 (λ_=>rfl)
def II:Gj prog 95 3 1=true:=A6
def ML:G0 prog 95 3 1 8=true:=A6
def jc:mkB prog 95 3 1 8=true:=A6
def I7:Ga prog 200 1 1=true:=A6
def Fw:Bm prog 95 1 false=true:=A6
def Fj:Ga prog 37 0 0=true:=A6
def Hu:Bm prog 34 3 true=true:=A6
def Zf:Dk prog 34 (KJ (0,0,0)):=FV (.agg #[Af,Af,Af]) A6 (λ_=>⟨_,rfl,⟨Af,[Af,Af],rfl,rfl,⟨Af,[Af],rfl,rfl,⟨Af,[],rfl,rfl,rfl⟩⟩⟩⟩)
def Gh:LB prog 34 3 1=true:=A6
def GN:Dx prog 44=true:=A6
def Fu:G7 prog 44 4=true:=A6
def Dd:Bm prog 37 4 true=true:=A6
def OB:Ga prog 200 0 0=true:=A6
def Oh:Bm prog 4 1 false=true:=A6
def DN:Dk prog 60 (BP ([],[],[])):=FV (.agg #[FG,FG,FG]) A6 (λ_=>⟨_,rfl,⟨FG,[FG,FG],rfl,rfl,⟨FG,[FG],rfl,rfl,⟨FG,[],rfl,rfl,rfl⟩⟩⟩⟩)
def DF:LB prog 60 3 1=true:=A6
def S:Bm prog 60 3 true=true:=A6
def WJ:Wx prog 4=true:=A6
def Qm:Gj prog 44 37 4=true:=A6
def Ob:G0 prog 44 37 4 40=true:=A6
def J4:Dk prog 37 (Ao ((0,0,0),[])):=FV (.agg #[Af,Af,Af,FG]) A6 (λ_=>⟨_,rfl,⟨(.agg #[Af,Af,Af]),[FG],rfl,⟨_,rfl,⟨Af,[Af,Af],rfl,rfl,⟨Af,[Af],rfl,rfl,⟨Af,[],rfl,rfl,rfl⟩⟩⟩⟩,⟨FG,[],rfl,rfl,rfl⟩⟩⟩)
def FI:Dx prog 47=true:=A6
def FX:G7 prog 47 3=true:=A6
def Ng:Gj prog 47 60 3=true:=A6
def Nh:G0 prog 47 60 3 48=true:=A6
def Mj:Dk prog 56 (Ny ([],[],[])):=FV (.agg #[Ak,Ak,Ak]) A6 (λ_=>⟨_,rfl,⟨Ak,[Ak,Ak],rfl,zTL,⟨Ak,[Ak],rfl,zTL,⟨Ak,[],rfl,zTL,rfl⟩⟩⟩⟩)
def ot:Dk prog 56 (DG [TN Ao [],TN BP [],TN (TL TiZ) []]):=FV (.agg #[Ak,Ak,Ak]) A6 (λ_=>⟨_,rfl,⟨Ak,[Ak,Ak],rfl,zTN,⟨Ak,[Ak],rfl,zTN,⟨Ak,[],rfl,zTN,rfl⟩⟩⟩⟩)
def U7:Ga prog 56 0 0=true:=A6
def UM:Bm prog 44 1 false=true:=A6
def NO:Ga prog 56 1 1=true:=A6
def MK:Bm prog 47 1 false=true:=A6
def QR:Ga prog 56 2 2=true:=A6
def Qk:Bm prog 54 1 false=true:=A6
def Zc:Dk prog 95 (TL TiZ []):=FV Ak A6 (λ_=>zTL)
def aP:Gj prog 54 95 1=true:=A6
def UE:Dx prog 54=true:=A6
def aU:G0 prog 54 95 1 24=true:=A6
def FO:Bm prog 56 3 true=true:=A6
def iN:ND prog 56 [1,1,1]=true:=A6
def Qg:G7 prog 54 1=true:=A6
def aaR:Dk prog 35 (TS []):=FV FG A6 (λ_=>rfl)
def abE:Gj prog 137 35 1=true:=A6
def qN:Dx prog 137=true:=A6
def aq6:G0 prog 137 35 1 16=true:=A6
def QX:G7 prog 137 1=true:=A6
def iP:ND prog 37 [3,1]=true:=A6
def rW:Gj prog 45 37 4=true:=A6
def Ev:Dk prog 110 (CX (0,[])):=FV (.agg #[Af,Ak]) A6 (λ_=>⟨_,rfl,⟨Af,[Ak],rfl,rfl,⟨Ak,[],rfl,zTN,rfl⟩⟩⟩)
def Mb:ND prog 110 [1,1]=true:=A6
def M:Bm prog 110 2 true=true:=A6
def WK:Sg prog 293 .u64=true:=A6
def LR:Ga prog 110 1 1=true:=A6
def Le:Bm prog 108 1 false=true:=A6
def DM:Dx prog 108=true:=A6
def GA:Ga prog 110 0 0=true:=A6
def Q9:Dk prog 293 (TI .u64 0):=FV (.int .u64 0) A6 (λ_=>rfl)
def rA:Gj prog 108 293 1=true:=A6
def Cs:G7 prog 108 1=true:=A6
def D9:Bm prog 293 1 false=true:=A6
def an9:Sg prog 233 .u64=true:=A6
def Wo:mkB prog 108 293 1 8=true:=A6
def apj:GL prog 317=true:=A6
def zy:Dx prog 188=true:=A6
def aaZ:G7 prog 188 1=true:=A6
def abZ:Bm prog 26 1 false=true:=A6
def apb:jG prog 34 3 3 1=true:=A6
def Zg:Dk prog 26 (TiZ 0):=FV Af A6 (λ_=>rfl)
def a8:Gj prog 188 26 1=true:=A6
def Eu:Dk prog 112 (Ir 4 true):=FV (.agg #[Af,Ak,Af,Ak]) A6 (λ_=>KU rfl rfl)
def oD:Dk prog 112 (DG [Ir 2 true,Ir 2 true]):=FV (.agg #[Af,Ak,Af,Ak]) A6 (λ_=>⟨_,rfl,⟨(.agg #[Af,Ak]),[Af,Ak],rfl,KU rfl rfl,⟨(.agg #[Af,Ak]),[],rfl,KU rfl rfl,rfl⟩⟩⟩)
def Yr:ND prog 112 [2,2]=true:=A6
def B:Bm prog 112 4 true=true:=A6
def DY:Dk prog 114 (Ir 12 true):=FV (.agg #[Af,Ak,Af,Ak,Af,Ak,Af,Ak,Af,Ak,Af,Ak]) A6 (λ_=>KU rfl rfl)
def Rb:Dk prog 114 (DG [Ir 4 true,Ir 4 true,Ir 4 true]):=FV (.agg #[Af,Ak,Af,Ak,Af,Ak,Af,Ak,Af,Ak,Af,Ak]) A6 (λ_=>⟨_,rfl,⟨(.agg #[Af,Ak,Af,Ak]),[Af,Ak,Af,Ak,Af,Ak,Af,Ak],rfl,KU rfl rfl,⟨(.agg #[Af,Ak,Af,Ak]),[Af,Ak,Af,Ak],rfl,KU rfl rfl,⟨(.agg #[Af,Ak,Af,Ak]),[],rfl,KU rfl rfl,rfl⟩⟩⟩⟩)
def Cm:LB prog 114 3 4=true:=A6
def P:Bm prog 114 12 true=true:=A6
def Jl:Dk prog 116 (Ir 16 true):=FV (.agg #[Af,Ak,Af,Ak,Af,Ak,Af,Ak,Af,Ak,Af,Ak,Af,Ak,Af,Ak]) A6 (λ_=>KU rfl rfl)
def Ra:Dk prog 116 (DG [Ir 12 true,Ir 4 true]):=FV (.agg #[Af,Ak,Af,Ak,Af,Ak,Af,Ak,Af,Ak,Af,Ak,Af,Ak,Af,Ak]) A6 (λ_=>⟨_,rfl,⟨(.agg #[Af,Ak,Af,Ak,Af,Ak,Af,Ak,Af,Ak,Af,Ak]),[Af,Ak,Af,Ak],rfl,KU rfl rfl,⟨(.agg #[Af,Ak,Af,Ak]),[],rfl,KU rfl rfl,rfl⟩⟩⟩)
def Rj:ND prog 116 [12,4]=true:=A6
def EY:Bm prog 116 16 true=true:=A6
def We:Gj prog 167 116 16=true:=A6
def Mh:Dx prog 167=true:=A6
def Wg:G0 prog 167 116 16 256=true:=A6
def LQ:Ga prog 112 0 0=true:=A6
def Kq:Ga prog 112 1 2=true:=A6
def ZX:Dx prog 309=true:=A6
def qe:G7 prog 309 4=true:=A6
def r9:Gj prog 309 112 4=true:=A6
def rF:G0 prog 309 112 4 64=true:=A6
def apo:GL prog 260=true:=A6
def nO:Dk prog 112 (eL ((0,[]),(0,[]))):=FV (.agg #[Af,Ak,Af,Ak]) A6 (λ_=>⟨_,rfl,⟨(.agg #[Af,Ak]),[Af,Ak],rfl,⟨_,rfl,⟨Af,[Ak],rfl,rfl,⟨Ak,[],rfl,zTN,rfl⟩⟩⟩,⟨(.agg #[Af,Ak]),[],rfl,⟨_,rfl,⟨Af,[Ak],rfl,rfl,⟨Ak,[],rfl,zTN,rfl⟩⟩⟩,rfl⟩⟩⟩)
def Hq:Bm prog 125 1 false=true:=A6
def GV:Dx prog 125=true:=A6
def HD:G7 prog 125 12=true:=A6
def apn:GL prog 277=true:=A6
def NV:Gj prog 125 114 12=true:=A6
def Mp:G0 prog 125 114 12 192=true:=A6
def Vq:Dk prog 241 (aaP (0,0)):=FV (.agg #[Af,Af]) A6 (λ_=>⟨_,rfl,⟨Af,[Af],rfl,rfl,⟨Af,[],rfl,rfl,rfl⟩⟩⟩)
def Wf:LB prog 241 2 1=true:=A6
def aq0:Gj prog 242 241 2=true:=A6
def an8:Dx prog 242=true:=A6
def ao1:G7 prog 242 2=true:=A6
def aaz:Bm prog 241 2 true=true:=A6
def oB:Dk prog 129 (DG [Ir 16 true,Ir 1 false]):=FV (.agg #[Af,Ak,Af,Ak,Af,Ak,Af,Ak,Af,Ak,Af,Ak,Af,Ak,Af,Ak,Ak]) A6 (λ_=>⟨_,rfl,⟨(.agg #[Af,Ak,Af,Ak,Af,Ak,Af,Ak,Af,Ak,Af,Ak,Af,Ak,Af,Ak]),[Ak],rfl,KU rfl rfl,⟨Ak,[],rfl,KU rfl rfl,rfl⟩⟩⟩)
def pG:ND prog 129 [16,1]=true:=A6
def LN:Dk prog 129 (Ir 17 true):=FV (.agg #[Af,Ak,Af,Ak,Af,Ak,Af,Ak,Af,Ak,Af,Ak,Af,Ak,Af,Ak,Ak]) A6 (λ_=>KU rfl rfl)
def jH:Gj prog 94 129 17=true:=A6
def Jt:Dx prog 94=true:=A6
def jJ:G0 prog 94 129 17 280=true:=A6
def KH:Ga prog 116 0 0=true:=A6
def NA:Ga prog 116 1 12=true:=A6
def ajR:Dk prog 217 (DG [Ir 12 true,Ir 12 true]):=FV (.agg #[Af,Ak,Af,Ak,Af,Ak,Af,Ak,Af,Ak,Af,Ak,Af,Ak,Af,Ak,Af,Ak,Af,Ak,Af,Ak,Af,Ak]) A6 (λ_=>⟨_,rfl,⟨(.agg #[Af,Ak,Af,Ak,Af,Ak,Af,Ak,Af,Ak,Af,Ak]),[Af,Ak,Af,Ak,Af,Ak,Af,Ak,Af,Ak,Af,Ak],rfl,KU rfl rfl,⟨(.agg #[Af,Ak,Af,Ak,Af,Ak,Af,Ak,Af,Ak,Af,Ak]),[],rfl,KU rfl rfl,rfl⟩⟩⟩)
def Qc:LB prog 217 2 12=true:=A6
def apq:GL prog 211=true:=A6
def ajO:Dk prog 125 (TN Av []):=FV Ak A6 (λ_=>zTN)
def wu:Dk prog 217 (Ir 24 true):=FV (.agg #[Af,Ak,Af,Ak,Af,Ak,Af,Ak,Af,Ak,Af,Ak,Af,Ak,Af,Ak,Af,Ak,Af,Ak,Af,Ak,Af,Ak]) A6 (λ_=>KU rfl rfl)
def ab0:Bm prog 217 24 true=true:=A6
def Na:G7 prog 94 17=true:=A6
def Gz:Bm prog 129 17 true=true:=A6
def OC:Ga prog 129 1 16=true:=A6
def Ma:Ga prog 129 0 0=true:=A6
def UB:G7 prog 167 16=true:=A6
def iI:jG prog 114 112 3 4=true:=A6
def Zd:Dk prog 94 (TL BV []):=FV Ak A6 (λ_=>zTL)
def aN:Gj prog 86 94 1=true:=A6
def JA:Dx prog 86=true:=A6
def Wz:G0 prog 86 94 1 24=true:=A6
def Mq:G7 prog 86 1=true:=A6
def Nc:Bm prog 94 1 false=true:=A6
def aqD:Dk prog 9 (TS []):=FV FG A6 (λ_=>rfl)
def apt:Gj prog 334 9 1=true:=A6
def zx:Dx prog 334=true:=A6
def aq5:G0 prog 334 9 1 16=true:=A6
def alX:(prog.info? 340).bind (·.zero)=some (.agg #[.pointer none,Ak]):=A6
def ao0:G7 prog 334 1=true:=A6
def asD:Bm prog 9 1 false=true:=A6
def ajC:ig prog 112 110 0 0=true:=A6
def aax:Bm prog 248 1 false=true:=A6
def apr:GL prog 195=true:=A6
def arc:G0 prog 45 37 4 40=true:=A6
def Ze:Dk prog 45 (TL Ao []):=FV Ak A6 (λ_=>zTL)
def aQ:Gj prog 23 45 1=true:=A6
def ard:G0 prog 23 45 1 24=true:=A6
def ou:Dk prog 158 (N5 ((0,0,0),[])):=FV (.agg #[Af,Af,Af,FG]) A6 (λ_=>⟨_,rfl,⟨(.agg #[Af,Af,Af]),[FG],rfl,⟨_,rfl,⟨Af,[Af,Af],rfl,rfl,⟨Af,[Af],rfl,rfl,⟨Af,[],rfl,rfl,rfl⟩⟩⟩⟩,⟨FG,[],rfl,rfl,rfl⟩⟩⟩)
def alq:ND prog 158 [3,1]=true:=A6
def iX:Bm prog 158 4 true=true:=A6
def po:Sf prog 155 158 114=true:=A6
def iH:Ga prog 85 0 0=true:=A6
def akz:Ga prog 158 0 0=true:=A6
def aky:Ga prog 158 1 3=true:=A6
def qb:Dk prog 85 (Kn (((0,0,0),[]),([],[],[]))):=FV (.agg #[Af,Af,Af,FG,FG,FG,FG]) A6 (λ_=>⟨_,rfl,⟨(.agg #[Af,Af,Af,FG]),[FG,FG,FG],rfl,⟨_,rfl,⟨(.agg #[Af,Af,Af]),[FG],rfl,⟨_,rfl,⟨Af,[Af,Af],rfl,rfl,⟨Af,[Af],rfl,rfl,⟨Af,[],rfl,rfl,rfl⟩⟩⟩⟩,⟨FG,[],rfl,rfl,rfl⟩⟩⟩,⟨(.agg #[FG,FG,FG]),[],rfl,⟨_,rfl,⟨FG,[FG,FG],rfl,rfl,⟨FG,[FG],rfl,rfl,⟨FG,[],rfl,rfl,rfl⟩⟩⟩⟩,rfl⟩⟩⟩)
def aaW:ND prog 85 [4,3]=true:=A6
def arV:Gj prog 72 85 7=true:=A6
def ab3:Dx prog 72=true:=A6
def arZ:G0 prog 72 85 7 88=true:=A6
def zz:Dx prog 185=true:=A6
def aaa:G7 prog 185 1=true:=A6
def abY:Bm prog 86 1 false=true:=A6
def ank:Dk prog 86 (TL (TL BV) []):=FV Ak A6 (λ_=>zTL)
def aq2:Gj prog 185 86 1=true:=A6
def aqT:G7 prog 72 7=true:=A6
def aqf:Bm prog 85 7 true=true:=A6
def ab1:Bm prog 210 1 false=true:=A6
def aps:GL prog 148=true:=A6
def anl:Dk prog 47 (TL BP []):=FV Ak A6 (λ_=>zTL)
def arW:Gj prog 50 47 1=true:=A6
def qq:Dx prog 50=true:=A6
def arb:G0 prog 50 47 1 24=true:=A6
def akx:ig prog 56 47 1 1=true:=A6
def aqW:G7 prog 50 1=true:=A6
abbrev AP[D:DR](f:Nat)(a:List Ty)(r:List Ty):Prop:=E0 prog f a (.vs r)
end Trn
