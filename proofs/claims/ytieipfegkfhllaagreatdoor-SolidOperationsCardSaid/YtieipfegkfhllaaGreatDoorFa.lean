/-
  Part of the proof of SolidOperations.
-/
import Derived.Test.YtieipfegkfhllaaGreatDoorEc
import Derived.Test.YtieipfegkfhllaaGreatDoorProg
set_option maxRecDepth 100000
set_option maxHeartbeats 20000000
set_option linter.all false
open Go Go.RowKit Go.Proofs Go.Proofs.Tryz
namespace Trn
abbrev Ah:Value:= .int .i64 0
abbrev Al:Value:= .slice none 0 0
abbrev FB:Value:= .string ⟨#[]⟩
def mixed:prog.follows .mixedOrders=true:=A7
@[reducible] def MR(x:Int×Int×Int):Ty:=DF [TiZ x.1,TiZ x.2.1,TiZ x.2.2]
@[reducible] def Af(x:(Int×Int×Int)×AD):Ty:=DF [MR x.1,TS x.2]
@[reducible] def Jg(x:Bool×A3 Int):Ty:=DF [Aw x.1,(TL TiZ) x.2]
@[reducible] def Ca(x:AD×AD×AD):Ty:=DF [TS x.1,TS x.2.1,TS x.2.2]
@[reducible] def G7(x:ShZ):Ty:=DF [(TL Af) x.1,(TL Ca) x.2.1,(TL (TL TiZ)) x.2.2]
@[reducible] def B1(x:Rat×Rat×Rat):Ty:=DF [By x.1,By x.2.1,By x.2.2]
@[reducible] def El(x:V3×Rat):Ty:=DF [B1 x.1,By x.2]
@[reducible] def fG(x:(Int×A3 Int)×(Int×A3 Int)):Ty:=DF [Ch x.1,Ch x.2]
@[reducible] def C3(x:PlZ×(A3 V3)):Ty:=DF [El x.1,(TL B1) x.2]
@[reducible] def aap(x:Int×Int):Ty:=DF [TiZ x.1,TiZ x.2]
@[reducible] def vX(x:V3×V3):Ty:=DF [B1 x.1,B1 x.2]
@[reducible] def NQ(x:(Int×Int×Int)×AD):Ty:=DF [MR x.1,TS x.2]
@[reducible] def L6(x:HfZ×CX):Ty:=DF [Af x.1,Ca x.2]
def Jo:Dw prog 46=true:=A7
def Nr:G1 prog 46 4=true:=A7
def K9:Gb prog 37 1 3=true:=A7
def V:Bq prog 35 1 false=true:=A7
def MP:isStr prog 35=true:=A7
def GN:Dw prog 23=true:=A7
def Hd:G1 prog 23 1=true:=A7
def Hq:Bq prog 46 1 false=true:=A7
def W:isStr prog 9=true:=A7
def aqb:Sy prog 5 .u8=true:=A7
def Si:Sy prog 3 .i64=true:=A7
def DI:Dw prog 79=true:=A7
def DA:G1 prog 79 1=true:=A7
def B:Bq prog 3 1 false=true:=A7
def Ia:Dp prog 178 (Jg (false,[])):=Ff (.agg #[.bool false,Al]) A7 (λ_=>⟨_,rfl,⟨(.bool false),[Al],rfl,rfl,⟨Al,[],rfl,zTL,rfl⟩⟩⟩)
def alw:NY prog 178 [1,1]=true:=A7
def DY:Bq prog 178 2 true=true:=A7
def Ho:Dp prog 3 (TiZ 0):=Ff Ah A7 (λ_=>rfl)
def IG:Gm prog 79 3 1=true:=A7
def Mc:Fw prog 79 3 1 8=true:=A7
def kJ:mkB prog 79 3 1 8=true:=A7
def IA:Gb prog 178 1 1=true:=A7
def GG:Bq prog 79 1 false=true:=A7
def FK:Gb prog 37 0 0=true:=A7
def JR:Bq prog 34 3 true=true:=A7
def Zw:Dp prog 34 (MR (0,0,0)):=Ff (.agg #[Ah,Ah,Ah]) A7 (λ_=>⟨_,rfl,⟨Ah,[Ah,Ah],rfl,rfl,⟨Ah,[Ah],rfl,rfl,⟨Ah,[],rfl,rfl,rfl⟩⟩⟩⟩)
def Ft:LX prog 34 3 1=true:=A7
def GC:Dw prog 45=true:=A7
def GD:G1 prog 45 4=true:=A7
def DZ:Bq prog 37 4 true=true:=A7
def ON:Gb prog 178 0 0=true:=A7
def P0:Bq prog 4 1 false=true:=A7
def Dz:Dp prog 52 (Ca ([],[],[])):=Ff (.agg #[FB,FB,FB]) A7 (λ_=>⟨_,rfl,⟨FB,[FB,FB],rfl,rfl,⟨FB,[FB],rfl,rfl,⟨FB,[],rfl,rfl,rfl⟩⟩⟩⟩)
def Da:LX prog 52 3 1=true:=A7
def C:Bq prog 52 3 true=true:=A7
def WR:X0 prog 4=true:=A7
def Qz:Gm prog 45 37 4=true:=A7
def On:Fw prog 45 37 4 40=true:=A7
def Ic:Dp prog 37 (Af ((0,0,0),[])):=Ff (.agg #[Ah,Ah,Ah,FB]) A7 (λ_=>⟨_,rfl,⟨(.agg #[Ah,Ah,Ah]),[FB],rfl,⟨_,rfl,⟨Ah,[Ah,Ah],rfl,rfl,⟨Ah,[Ah],rfl,rfl,⟨Ah,[],rfl,rfl,rfl⟩⟩⟩⟩,⟨FB,[],rfl,rfl,rfl⟩⟩⟩)
def MZ:Dw prog 63=true:=A7
def Nq:G1 prog 63 3=true:=A7
def ax:Gm prog 63 52 3=true:=A7
def jm:Fw prog 63 52 3 48=true:=A7
def Jk:Dp prog 85 (G7 ([],[],[])):=Ff (.agg #[Al,Al,Al]) A7 (λ_=>⟨_,rfl,⟨Al,[Al,Al],rfl,zTL,⟨Al,[Al],rfl,zTL,⟨Al,[],rfl,zTL,rfl⟩⟩⟩⟩)
def pI:Dp prog 85 (DF [TN Af [],TN Ca [],TN (TL TiZ) []]):=Ff (.agg #[Al,Al,Al]) A7 (λ_=>⟨_,rfl,⟨Al,[Al,Al],rfl,zTN,⟨Al,[Al],rfl,zTN,⟨Al,[],rfl,zTN,rfl⟩⟩⟩⟩)
def UO:Gb prog 85 0 0=true:=A7
def Ub:Bq prog 45 1 false=true:=A7
def Pj:Gb prog 85 1 1=true:=A7
def Q0:Bq prog 63 1 false=true:=A7
def SK:Gb prog 85 2 2=true:=A7
def Sh:Bq prog 83 1 false=true:=A7
def Zt:Dp prog 79 (TL TiZ []):=Ff Al A7 (λ_=>zTL)
def aq:Gm prog 83 79 1=true:=A7
def UW:Dw prog 83=true:=A7
def az:Fw prog 83 79 1 24=true:=A7
def EC:Bq prog 85 3 true=true:=A7
def jC:NY prog 85 [1,1,1]=true:=A7
def Sc:G1 prog 83 1=true:=A7
def anl:Dp prog 35 (TS []):=Ff FB A7 (λ_=>rfl)
def aps:Gm prog 182 35 1=true:=A7
def aaG:Dw prog 182=true:=A7
def aq1:Fw prog 182 35 1 16=true:=A7
def SQ:G1 prog 182 1=true:=A7
def Zy:NY prog 37 [3,1]=true:=A7
def jk:Gm prog 46 37 4=true:=A7
def Eo:Dp prog 98 (Ch (0,[])):=Ff (.agg #[Ah,Al]) A7 (λ_=>⟨_,rfl,⟨Ah,[Al],rfl,rfl,⟨Al,[],rfl,zTN,rfl⟩⟩⟩)
def Mz:NY prog 98 [1,1]=true:=A7
def g:Bq prog 98 2 true=true:=A7
def WS:Sy prog 251 .u64=true:=A7
def Lu:Gb prog 98 1 1=true:=A7
def M1:Bq prog 96 1 false=true:=A7
def DP:Dw prog 96=true:=A7
def G8:Gb prog 98 0 0=true:=A7
def QU:Dp prog 251 (TI .u64 0):=Ff (.int .u64 0) A7 (λ_=>rfl)
def rY:Gm prog 96 251 1=true:=A7
def Z:G1 prog 96 1=true:=A7
def DH:Bq prog 251 1 false=true:=A7
def anB:Sy prog 204 .u64=true:=A7
def XB:mkB prog 96 251 1 8=true:=A7
def aph:Gi prog 283=true:=A7
def aaH:Dw prog 165=true:=A7
def aay:G1 prog 165 1=true:=A7
def abt:Bq prog 26 1 false=true:=A7
def apa:ji prog 34 3 3 1=true:=A7
def Zx:Dp prog 26 (TiZ 0):=Ff Ah A7 (λ_=>rfl)
def aY:Gm prog 165 26 1=true:=A7
def Em:Dp prog 100 (Iu 4 true):=Ff (.agg #[Ah,Al,Ah,Al]) A7 (λ_=>Kj rfl rfl)
def oR:Dp prog 100 (DF [Iu 2 true,Iu 2 true]):=Ff (.agg #[Ah,Al,Ah,Al]) A7 (λ_=>⟨_,rfl,⟨(.agg #[Ah,Al]),[Ah,Al],rfl,Kj rfl rfl,⟨(.agg #[Ah,Al]),[],rfl,Kj rfl rfl,rfl⟩⟩⟩)
def Z3:NY prog 100 [2,2]=true:=A7
def d:Bq prog 100 4 true=true:=A7
def Di:Dp prog 102 (Iu 12 true):=Ff (.agg #[Ah,Al,Ah,Al,Ah,Al,Ah,Al,Ah,Al,Ah,Al]) A7 (λ_=>Kj rfl rfl)
def Rs:Dp prog 102 (DF [Iu 4 true,Iu 4 true,Iu 4 true]):=Ff (.agg #[Ah,Al,Ah,Al,Ah,Al,Ah,Al,Ah,Al,Ah,Al]) A7 (λ_=>⟨_,rfl,⟨(.agg #[Ah,Al,Ah,Al]),[Ah,Al,Ah,Al,Ah,Al,Ah,Al],rfl,Kj rfl rfl,⟨(.agg #[Ah,Al,Ah,Al]),[Ah,Al,Ah,Al],rfl,Kj rfl rfl,⟨(.agg #[Ah,Al,Ah,Al]),[],rfl,Kj rfl rfl,rfl⟩⟩⟩⟩)
def Y:LX prog 102 3 4=true:=A7
def m:Bq prog 102 12 true=true:=A7
def K6:Dp prog 104 (Iu 16 true):=Ff (.agg #[Ah,Al,Ah,Al,Ah,Al,Ah,Al,Ah,Al,Ah,Al,Ah,Al,Ah,Al]) A7 (λ_=>Kj rfl rfl)
def Rr:Dp prog 104 (DF [Iu 12 true,Iu 4 true]):=Ff (.agg #[Ah,Al,Ah,Al,Ah,Al,Ah,Al,Ah,Al,Ah,Al,Ah,Al,Ah,Al]) A7 (λ_=>⟨_,rfl,⟨(.agg #[Ah,Al,Ah,Al,Ah,Al,Ah,Al,Ah,Al,Ah,Al]),[Ah,Al,Ah,Al],rfl,Kj rfl rfl,⟨(.agg #[Ah,Al,Ah,Al]),[],rfl,Kj rfl rfl,rfl⟩⟩⟩)
def S1:NY prog 104 [12,4]=true:=A7
def EW:Bq prog 104 16 true=true:=A7
def Wi:Gm prog 136 104 16=true:=A7
def Mx:Dw prog 136=true:=A7
def Wn:Fw prog 136 104 16 256=true:=A7
def Lj:Gb prog 100 0 0=true:=A7
def LB:Gb prog 100 1 2=true:=A7
def Zl:Dw prog 273=true:=A7
def qi:G1 prog 273 4=true:=A7
def rB:Gm prog 273 100 4=true:=A7
def rF:Fw prog 273 100 4 64=true:=A7
def apj:Gi prog 222=true:=A7
def nk:Dp prog 100 (fG ((0,[]),(0,[]))):=Ff (.agg #[Ah,Al,Ah,Al]) A7 (λ_=>⟨_,rfl,⟨(.agg #[Ah,Al]),[Ah,Al],rfl,⟨_,rfl,⟨Ah,[Al],rfl,rfl,⟨Al,[],rfl,zTN,rfl⟩⟩⟩,⟨(.agg #[Ah,Al]),[],rfl,⟨_,rfl,⟨Ah,[Al],rfl,rfl,⟨Al,[],rfl,zTN,rfl⟩⟩⟩,rfl⟩⟩⟩)
def Im:Bq prog 116 1 false=true:=A7
def H7:Dw prog 116=true:=A7
def HY:G1 prog 116 12=true:=A7
def api:Gi prog 274=true:=A7
def Ol:Gm prog 116 102 12=true:=A7
def Np:Fw prog 116 102 12 192=true:=A7
def Vz:Dp prog 212 (aap (0,0)):=Ff (.agg #[Ah,Ah]) A7 (λ_=>⟨_,rfl,⟨Ah,[Ah],rfl,rfl,⟨Ah,[],rfl,rfl,rfl⟩⟩⟩)
def Wm:LX prog 212 2 1=true:=A7
def apr:Gm prog 213 212 2=true:=A7
def anA:Dw prog 213=true:=A7
def ao2:G1 prog 213 2=true:=A7
def abL:Bq prog 212 2 true=true:=A7
def oQ:Dp prog 118 (DF [Iu 16 true,Iu 1 false]):=Ff (.agg #[Ah,Al,Ah,Al,Ah,Al,Ah,Al,Ah,Al,Ah,Al,Ah,Al,Ah,Al,Al]) A7 (λ_=>⟨_,rfl,⟨(.agg #[Ah,Al,Ah,Al,Ah,Al,Ah,Al,Ah,Al,Ah,Al,Ah,Al,Ah,Al]),[Al],rfl,Kj rfl rfl,⟨Al,[],rfl,Kj rfl rfl,rfl⟩⟩⟩)
def pT:NY prog 118 [16,1]=true:=A7
def Mo:Dp prog 118 (Iu 17 true):=Ff (.agg #[Ah,Al,Ah,Al,Ah,Al,Ah,Al,Ah,Al,Ah,Al,Ah,Al,Ah,Al,Al]) A7 (λ_=>Kj rfl rfl)
def rZ:Gm prog 78 118 17=true:=A7
def MY:Dw prog 78=true:=A7
def rf:Fw prog 78 118 17 280=true:=A7
def LA:Gb prog 104 0 0=true:=A7
def NW:Gb prog 104 1 12=true:=A7
def ajV:Dp prog 195 (DF [Iu 12 true,Iu 12 true]):=Ff (.agg #[Ah,Al,Ah,Al,Ah,Al,Ah,Al,Ah,Al,Ah,Al,Ah,Al,Ah,Al,Ah,Al,Ah,Al,Ah,Al,Ah,Al]) A7 (λ_=>⟨_,rfl,⟨(.agg #[Ah,Al,Ah,Al,Ah,Al,Ah,Al,Ah,Al,Ah,Al]),[Ah,Al,Ah,Al,Ah,Al,Ah,Al,Ah,Al,Ah,Al],rfl,Kj rfl rfl,⟨(.agg #[Ah,Al,Ah,Al,Ah,Al,Ah,Al,Ah,Al,Ah,Al]),[],rfl,Kj rfl rfl,rfl⟩⟩⟩)
def Qt:LX prog 195 2 12=true:=A7
def apk:Gi prog 189=true:=A7
def ajU:Dp prog 116 (TN B1 []):=Ff Al A7 (λ_=>zTN)
def xJ:Dp prog 195 (Iu 24 true):=Ff (.agg #[Ah,Al,Ah,Al,Ah,Al,Ah,Al,Ah,Al,Ah,Al,Ah,Al,Ah,Al,Ah,Al,Ah,Al,Ah,Al,Ah,Al]) A7 (λ_=>Kj rfl rfl)
def abM:Bq prog 195 24 true=true:=A7
def Pu:G1 prog 78 17=true:=A7
def JM:Bq prog 118 17 true=true:=A7
def QS:Gb prog 118 1 16=true:=A7
def OO:Gb prog 118 0 0=true:=A7
def UT:G1 prog 136 16=true:=A7
def j6:ji prog 102 100 3 4=true:=A7
def Zu:Dp prog 78 (TL C3 []):=Ff Al A7 (λ_=>zTL)
def ar:Gm prog 70 78 1=true:=A7
def JN:Dw prog 70=true:=A7
def X1:Fw prog 70 78 1 24=true:=A7
def N7:G1 prog 70 1=true:=A7
def Nu:Bq prog 78 1 false=true:=A7
def aq6:Dp prog 9 (TS []):=Ff FB A7 (λ_=>rfl)
def apm:Gm prog 304 9 1=true:=A7
def aaF:Dw prog 304=true:=A7
def apw:Fw prog 304 9 1 16=true:=A7
def alT:(prog.info? 310).bind (·.zero)=some (.agg #[.pointer none,Al]):=A7
def ao1:G1 prog 304 1=true:=A7
def asA:Bq prog 9 1 false=true:=A7
def ajI:qw prog 100 98 0 0=true:=A7
def abK:Bq prog 220 1 false=true:=A7
def apl:Gi prog 162=true:=A7
def ac7:Fw prog 46 37 4 40=true:=A7
def Zv:Dp prog 46 (TL Af []):=Ff Al A7 (λ_=>zTL)
def Wz:Gm prog 23 46 1=true:=A7
def jq:Fw prog 23 46 1 24=true:=A7
def pJ:Dp prog 127 (NQ ((0,0,0),[])):=Ff (.agg #[Ah,Ah,Ah,FB]) A7 (λ_=>⟨_,rfl,⟨(.agg #[Ah,Ah,Ah]),[FB],rfl,⟨_,rfl,⟨Ah,[Ah,Ah],rfl,rfl,⟨Ah,[Ah],rfl,rfl,⟨Ah,[],rfl,rfl,rfl⟩⟩⟩⟩,⟨FB,[],rfl,rfl,rfl⟩⟩⟩)
def alx:NY prog 127 [3,1]=true:=A7
def jK:Bq prog 127 4 true=true:=A7
def qG:Uj prog 124 127 102=true:=A7
def iu:Gb prog 69 0 0=true:=A7
def al7:Gb prog 127 0 0=true:=A7
def al6:Gb prog 127 1 3=true:=A7
def qf:Dp prog 69 (L6 (((0,0,0),[]),([],[],[]))):=Ff (.agg #[Ah,Ah,Ah,FB,FB,FB,FB]) A7 (λ_=>⟨_,rfl,⟨(.agg #[Ah,Ah,Ah,FB]),[FB,FB,FB],rfl,⟨_,rfl,⟨(.agg #[Ah,Ah,Ah]),[FB],rfl,⟨_,rfl,⟨Ah,[Ah,Ah],rfl,rfl,⟨Ah,[Ah],rfl,rfl,⟨Ah,[],rfl,rfl,rfl⟩⟩⟩⟩,⟨FB,[],rfl,rfl,rfl⟩⟩⟩,⟨(.agg #[FB,FB,FB]),[],rfl,⟨_,rfl,⟨FB,[FB,FB],rfl,rfl,⟨FB,[FB],rfl,rfl,⟨FB,[],rfl,rfl,rfl⟩⟩⟩⟩,rfl⟩⟩⟩)
def aav:NY prog 69 [4,3]=true:=A7
def arS:Gm prog 55 69 7=true:=A7
def abO:Dw prog 55=true:=A7
def arV:Fw prog 55 69 7 88=true:=A7
def aaJ:Dw prog 157=true:=A7
def aaz:G1 prog 157 1=true:=A7
def abr:Bq prog 70 1 false=true:=A7
def ank:Dp prog 70 (TL (TL C3) []):=Ff Al A7 (λ_=>zTL)
def apt:Gm prog 157 70 1=true:=A7
def aqJ:G1 prog 55 7=true:=A7
def aqZ:Bq prog 69 7 true=true:=A7
def jj:Gm prog 81 85 3=true:=A7
def UX:Dw prog 81=true:=A7
def jl:Fw prog 81 85 3 72=true:=A7
def rJ:G1 prog 81 3=true:=A7
abbrev AS[D:DR](f:Nat)(a:List Ty)(r:List Ty):Prop:=Eg prog f a (.vs r)
end Trn
