/- Part of SolidCuts. -/
import Derived.Test.YtieipfegkfhllaaGreatDoorEc
import Derived.Test.YtieipfegkfhllaaGreatDoorProg
set_option maxRecDepth 100000
set_option maxHeartbeats 20000000
set_option linter.all false
open Go Go.RowKit Go.Proofs Go.Proofs.Tryz
namespace Trn
abbrev Ag:Value:= .int .i64 0
abbrev Al:Value:= .slice none 0 0
abbrev F8:Value:= .string ⟨#[]⟩
def mixed:prog.follows .mixedOrders=true:=A7
@[reducible] def MM(x:Int×Int×Int):Ty:=DB [TiZ x.1,TiZ x.2.1,TiZ x.2.2]
@[reducible] def Af(x:(Int×Int×Int)×AD):Ty:=DB [MM x.1,TS x.2]
@[reducible] def Jb(x:Bool×A3 Int):Ty:=DB [Av x.1,(TL TiZ) x.2]
@[reducible] def CY(x:AD×AD×AD):Ty:=DB [TS x.1,TS x.2.1,TS x.2.2]
@[reducible] def GG(x:ShZ):Ty:=DB [(TL Af) x.1,(TL CY) x.2.1,(TL (TL TiZ)) x.2.2]
@[reducible] def B0(x:Rat×Rat×Rat):Ty:=DB [Bw x.1,Bw x.2.1,Bw x.2.2]
@[reducible] def Ek(x:V3×Rat):Ty:=DB [B0 x.1,Bw x.2]
@[reducible] def ek(x:(Int×A3 Int)×(Int×A3 Int)):Ty:=DB [Cj x.1,Cj x.2]
@[reducible] def C1(x:PlZ×(A3 V3)):Ty:=DB [Ek x.1,(TL B0) x.2]
@[reducible] def aaZ(x:Int×Int):Ty:=DB [TiZ x.1,TiZ x.2]
@[reducible] def vG(x:V3×V3):Ty:=DB [B0 x.1,B0 x.2]
@[reducible] def NJ(x:(Int×Int×Int)×AD):Ty:=DB [MM x.1,TS x.2]
@[reducible] def L4(x:HfZ×CV):Ty:=DB [Af x.1,CY x.2]
def Jk:Du prog 46=true:=A7
def Nj:G2 prog 46 4=true:=A7
def Jf:GX prog 37 1 3=true:=A7
def V:Bp prog 35 1 false=true:=A7
def Lr:isStr prog 35=true:=A7
def GV:Du prog 23=true:=A7
def Hm:G2 prog 23 1=true:=A7
def ID:Bp prog 46 1 false=true:=A7
def W:isStr prog 9=true:=A7
def aqT:Sq prog 5 .u8=true:=A7
def Sa:Sq prog 3 .i64=true:=A7
def DG:Du prog 79=true:=A7
def D8:G2 prog 79 1=true:=A7
def B:Bp prog 3 1 false=true:=A7
def Ia:Dn prog 178 (Jb (false,[])):=FZ (.agg #[.bool false,Al]) A7 (λ_=>⟨_,rfl,⟨(.bool false),[Al],rfl,rfl,⟨Al,[],rfl,zTL,rfl⟩⟩⟩)
def alp:NS prog 178 [1,1]=true:=A7
def DY:Bp prog 178 2 true=true:=A7
def Ha:Dn prog 3 (TiZ 0):=FZ Ag A7 (λ_=>rfl)
def Hp:Gi prog 79 3 1=true:=A7
def MY:Fu prog 79 3 1 8=true:=A7
def kB:mkB prog 79 3 1 8=true:=A7
def I7:GX prog 178 1 1=true:=A7
def GA:Bp prog 79 1 false=true:=A7
def FD:GX prog 37 0 0=true:=A7
def JM:Bp prog 34 3 true=true:=A7
def Zr:Dn prog 34 (MM (0,0,0)):=FZ (.agg #[Ag,Ag,Ag]) A7 (λ_=>⟨_,rfl,⟨Ag,[Ag,Ag],rfl,rfl,⟨Ag,[Ag],rfl,rfl,⟨Ag,[],rfl,rfl,rfl⟩⟩⟩⟩)
def Fq:LV prog 34 3 1=true:=A7
def G7:Du prog 45=true:=A7
def G8:G2 prog 45 4=true:=A7
def DM:Bp prog 37 4 true=true:=A7
def OH:GX prog 178 0 0=true:=A7
def Oq:Bp prog 4 1 false=true:=A7
def Dz:Dn prog 52 (CY ([],[],[])):=FZ (.agg #[F8,F8,F8]) A7 (λ_=>⟨_,rfl,⟨F8,[F8,F8],rfl,rfl,⟨F8,[F8],rfl,rfl,⟨F8,[],rfl,rfl,rfl⟩⟩⟩⟩)
def DZ:LV prog 52 3 1=true:=A7
def C:Bp prog 52 3 true=true:=A7
def UF:Wr prog 4=true:=A7
def Qu:Gi prog 45 37 4=true:=A7
def Of:Fu prog 45 37 4 40=true:=A7
def Ib:Dn prog 37 (Af ((0,0,0),[])):=FZ (.agg #[Ag,Ag,Ag,F8]) A7 (λ_=>⟨_,rfl,⟨(.agg #[Ag,Ag,Ag]),[F8],rfl,⟨_,rfl,⟨Ag,[Ag,Ag],rfl,rfl,⟨Ag,[Ag],rfl,rfl,⟨Ag,[],rfl,rfl,rfl⟩⟩⟩⟩,⟨F8,[],rfl,rfl,rfl⟩⟩⟩)
def MV:Du prog 63=true:=A7
def Ni:G2 prog 63 3=true:=A7
def aj:Gi prog 63 52 3=true:=A7
def jf:Fu prog 63 52 3 48=true:=A7
def Jg:Dn prog 85 (GG ([],[],[])):=FZ (.agg #[Al,Al,Al]) A7 (λ_=>⟨_,rfl,⟨Al,[Al,Al],rfl,zTL,⟨Al,[Al],rfl,zTL,⟨Al,[],rfl,zTL,rfl⟩⟩⟩⟩)
def ow:Dn prog 85 (DB [TN Af [],TN CY [],TN (TL TiZ) []]):=FZ (.agg #[Al,Al,Al]) A7 (λ_=>⟨_,rfl,⟨Al,[Al,Al],rfl,zTN,⟨Al,[Al],rfl,zTN,⟨Al,[],rfl,zTN,rfl⟩⟩⟩⟩)
def UG:GX prog 85 0 0=true:=A7
def UU:Bp prog 45 1 false=true:=A7
def Pe:GX prog 85 1 1=true:=A7
def Pw:Bp prog 63 1 false=true:=A7
def SD:GX prog 85 2 2=true:=A7
def SZ:Bp prog 83 1 false=true:=A7
def Zl:Dn prog 79 (TL TiZ []):=FZ Al A7 (λ_=>zTL)
def ah:Gi prog 83 79 1=true:=A7
def UO:Du prog 83=true:=A7
def aq:Fu prog 83 79 1 24=true:=A7
def EB:Bp prog 85 3 true=true:=A7
def j5:NS prog 85 [1,1,1]=true:=A7
def SU:G2 prog 83 1=true:=A7
def anh:Dn prog 35 (TS []):=FZ F8 A7 (λ_=>rfl)
def apU:Gi prog 182 35 1=true:=A7
def aa0:Du prog 182=true:=A7
def ape:Fu prog 182 35 1 16=true:=A7
def SG:G2 prog 182 1=true:=A7
def Zu:NS prog 37 [3,1]=true:=A7
def jd:Gi prog 46 37 4=true:=A7
def En:Dn prog 98 (Cj (0,[])):=FZ (.agg #[Ag,Al]) A7 (λ_=>⟨_,rfl,⟨Ag,[Al],rfl,rfl,⟨Al,[],rfl,zTN,rfl⟩⟩⟩)
def Mu:NS prog 98 [1,1]=true:=A7
def g:Bp prog 98 2 true=true:=A7
def WL:Sq prog 251 .u64=true:=A7
def Ls:GX prog 98 1 1=true:=A7
def Ly:Bp prog 96 1 false=true:=A7
def DS:Du prog 96=true:=A7
def G4:GX prog 98 0 0=true:=A7
def QP:Dn prog 251 (TI .u64 0):=FZ (.int .u64 0) A7 (λ_=>rfl)
def rE:Gi prog 96 251 1=true:=A7
def Z:G2 prog 96 1=true:=A7
def DF:Bp prog 251 1 false=true:=A7
def an2:Sq prog 204 .u64=true:=A7
def X3:mkB prog 96 251 1 8=true:=A7
def ap3:Gd prog 283=true:=A7
def aa1:Du prog 165=true:=A7
def aaj:G2 prog 165 1=true:=A7
def abe:Bp prog 26 1 false=true:=A7
def aoi:ja prog 34 3 3 1=true:=A7
def Zt:Dn prog 26 (TiZ 0):=FZ Ag A7 (λ_=>rfl)
def aP:Gi prog 165 26 1=true:=A7
def El:Dn prog 100 (Ir 4 true):=FZ (.agg #[Ag,Al,Ag,Al]) A7 (λ_=>Ki rfl rfl)
def oE:Dn prog 100 (DB [Ir 2 true,Ir 2 true]):=FZ (.agg #[Ag,Al,Ag,Al]) A7 (λ_=>⟨_,rfl,⟨(.agg #[Ag,Al]),[Ag,Al],rfl,Ki rfl rfl,⟨(.agg #[Ag,Al]),[],rfl,Ki rfl rfl,rfl⟩⟩⟩)
def Yz:NS prog 100 [2,2]=true:=A7
def d:Bp prog 100 4 true=true:=A7
def Dh:Dn prog 102 (Ir 12 true):=FZ (.agg #[Ag,Al,Ag,Al,Ag,Al,Ag,Al,Ag,Al,Ag,Al]) A7 (λ_=>Ki rfl rfl)
def Rk:Dn prog 102 (DB [Ir 4 true,Ir 4 true,Ir 4 true]):=FZ (.agg #[Ag,Al,Ag,Al,Ag,Al,Ag,Al,Ag,Al,Ag,Al]) A7 (λ_=>⟨_,rfl,⟨(.agg #[Ag,Al,Ag,Al]),[Ag,Al,Ag,Al,Ag,Al,Ag,Al],rfl,Ki rfl rfl,⟨(.agg #[Ag,Al,Ag,Al]),[Ag,Al,Ag,Al],rfl,Ki rfl rfl,⟨(.agg #[Ag,Al,Ag,Al]),[],rfl,Ki rfl rfl,rfl⟩⟩⟩⟩)
def X:LV prog 102 3 4=true:=A7
def m:Bp prog 102 12 true=true:=A7
def K2:Dn prog 104 (Ir 16 true):=FZ (.agg #[Ag,Al,Ag,Al,Ag,Al,Ag,Al,Ag,Al,Ag,Al,Ag,Al,Ag,Al]) A7 (λ_=>Ki rfl rfl)
def Rj:Dn prog 104 (DB [Ir 12 true,Ir 4 true]):=FZ (.agg #[Ag,Al,Ag,Al,Ag,Al,Ag,Al,Ag,Al,Ag,Al,Ag,Al,Ag,Al]) A7 (λ_=>⟨_,rfl,⟨(.agg #[Ag,Al,Ag,Al,Ag,Al,Ag,Al,Ag,Al,Ag,Al]),[Ag,Al,Ag,Al],rfl,Ki rfl rfl,⟨(.agg #[Ag,Al,Ag,Al]),[],rfl,Ki rfl rfl,rfl⟩⟩⟩)
def Rt:NS prog 104 [12,4]=true:=A7
def EV:Bp prog 104 16 true=true:=A7
def Wb:Gi prog 136 104 16=true:=A7
def Ms:Du prog 136=true:=A7
def Wd:Fu prog 136 104 16 256=true:=A7
def Lh:GX prog 100 0 0=true:=A7
def L9:GX prog 100 1 2=true:=A7
def Zg:Du prog 273=true:=A7
def qR:G2 prog 273 4=true:=A7
def ql:Gi prog 273 100 4=true:=A7
def qp:Fu prog 273 100 4 64=true:=A7
def ap5:Gd prog 222=true:=A7
def nU:Dn prog 100 (ek ((0,[]),(0,[]))):=FZ (.agg #[Ag,Al,Ag,Al]) A7 (λ_=>⟨_,rfl,⟨(.agg #[Ag,Al]),[Ag,Al],rfl,⟨_,rfl,⟨Ag,[Al],rfl,rfl,⟨Al,[],rfl,zTN,rfl⟩⟩⟩,⟨(.agg #[Ag,Al]),[],rfl,⟨_,rfl,⟨Ag,[Al],rfl,rfl,⟨Al,[],rfl,zTN,rfl⟩⟩⟩,rfl⟩⟩⟩)
def Ik:Bp prog 116 1 false=true:=A7
def Gw:Du prog 116=true:=A7
def HU:G2 prog 116 12=true:=A7
def ap4:Gd prog 274=true:=A7
def Od:Gi prog 116 102 12=true:=A7
def Nh:Fu prog 116 102 12 192=true:=A7
def Vv:Dn prog 212 (aaZ (0,0)):=FZ (.agg #[Ag,Ag]) A7 (λ_=>⟨_,rfl,⟨Ag,[Ag],rfl,rfl,⟨Ag,[],rfl,rfl,rfl⟩⟩⟩)
def Wc:LV prog 212 2 1=true:=A7
def ap9:Gi prog 213 212 2=true:=A7
def an1:Du prog 213=true:=A7
def anv:G2 prog 213 2=true:=A7
def ab4:Bp prog 212 2 true=true:=A7
def oD:Dn prog 118 (DB [Ir 16 true,Ir 1 false]):=FZ (.agg #[Ag,Al,Ag,Al,Ag,Al,Ag,Al,Ag,Al,Ag,Al,Ag,Al,Ag,Al,Al]) A7 (λ_=>⟨_,rfl,⟨(.agg #[Ag,Al,Ag,Al,Ag,Al,Ag,Al,Ag,Al,Ag,Al,Ag,Al,Ag,Al]),[Al],rfl,Ki rfl rfl,⟨Al,[],rfl,Ki rfl rfl,rfl⟩⟩⟩)
def pG:NS prog 118 [16,1]=true:=A7
def Mj:Dn prog 118 (Ir 17 true):=FZ (.agg #[Ag,Al,Ag,Al,Ag,Al,Ag,Al,Ag,Al,Ag,Al,Ag,Al,Ag,Al,Al]) A7 (λ_=>Ki rfl rfl)
def rG:Gi prog 78 118 17=true:=A7
def MU:Du prog 78=true:=A7
def rJ:Fu prog 78 118 17 280=true:=A7
def L8:GX prog 104 0 0=true:=A7
def NQ:GX prog 104 1 12=true:=A7
def ajU:Dn prog 195 (DB [Ir 12 true,Ir 12 true]):=FZ (.agg #[Ag,Al,Ag,Al,Ag,Al,Ag,Al,Ag,Al,Ag,Al,Ag,Al,Ag,Al,Ag,Al,Ag,Al,Ag,Al,Ag,Al]) A7 (λ_=>⟨_,rfl,⟨(.agg #[Ag,Al,Ag,Al,Ag,Al,Ag,Al,Ag,Al,Ag,Al]),[Ag,Al,Ag,Al,Ag,Al,Ag,Al,Ag,Al,Ag,Al],rfl,Ki rfl rfl,⟨(.agg #[Ag,Al,Ag,Al,Ag,Al,Ag,Al,Ag,Al,Ag,Al]),[],rfl,Ki rfl rfl,rfl⟩⟩⟩)
def Qn:LV prog 195 2 12=true:=A7
def ap6:Gd prog 189=true:=A7
def ajT:Dn prog 116 (TN B0 []):=FZ Al A7 (λ_=>zTN)
def wZ:Dn prog 195 (Ir 24 true):=FZ (.agg #[Ag,Al,Ag,Al,Ag,Al,Ag,Al,Ag,Al,Ag,Al,Ag,Al,Ag,Al,Ag,Al,Ag,Al,Ag,Al,Ag,Al]) A7 (λ_=>Ki rfl rfl)
def ab6:Bp prog 195 24 true=true:=A7
def Pq:G2 prog 78 17=true:=A7
def JI:Bp prog 118 17 true=true:=A7
def QO:GX prog 118 1 16=true:=A7
def OI:GX prog 118 0 0=true:=A7
def UM:G2 prog 136 16=true:=A7
def il:ja prog 102 100 3 4=true:=A7
def Zp:Dn prog 78 (TL C1 []):=FZ Al A7 (λ_=>zTL)
def ai:Gi prog 70 78 1=true:=A7
def IC:Du prog 70=true:=A7
def Wt:Fu prog 70 78 1 24=true:=A7
def N0:G2 prog 70 1=true:=A7
def Nn:Bp prog 78 1 false=true:=A7
def api:Dn prog 9 (TS []):=FZ F8 A7 (λ_=>rfl)
def ap8:Gi prog 304 9 1=true:=A7
def aAZ:Du prog 304=true:=A7
def apa:Fu prog 304 9 1 16=true:=A7
def alX:(prog.info? 310).bind (·.zero)=some (.agg #[.pointer none,Al]):=A7
def anu:G2 prog 304 1=true:=A7
def asF:Bp prog 9 1 false=true:=A7
def ajI:qe prog 100 98 0 0=true:=A7
def ab3:Bp prog 220 1 false=true:=A7
def ap7:Gd prog 162=true:=A7
def abw:Fu prog 46 37 4 40=true:=A7
def Zq:Dn prog 46 (TL Af []):=FZ Al A7 (λ_=>zTL)
def ak:Gi prog 23 46 1=true:=A7
def abx:Fu prog 23 46 1 24=true:=A7
def p6:Dn prog 127 (NJ ((0,0,0),[])):=FZ (.agg #[Ag,Ag,Ag,F8]) A7 (λ_=>⟨_,rfl,⟨(.agg #[Ag,Ag,Ag]),[F8],rfl,⟨_,rfl,⟨Ag,[Ag,Ag],rfl,rfl,⟨Ag,[Ag],rfl,rfl,⟨Ag,[],rfl,rfl,rfl⟩⟩⟩⟩,⟨F8,[],rfl,rfl,rfl⟩⟩⟩)
def alq:NS prog 127 [3,1]=true:=A7
def jD:Bp prog 127 4 true=true:=A7
def pg:Ud prog 124 127 102=true:=A7
def ig:GX prog 69 0 0=true:=A7
def al4:GX prog 127 0 0=true:=A7
def al3:GX prog 127 1 3=true:=A7
def qO:Dn prog 69 (L4 (((0,0,0),[]),([],[],[]))):=FZ (.agg #[Ag,Ag,Ag,F8,F8,F8,F8]) A7 (λ_=>⟨_,rfl,⟨(.agg #[Ag,Ag,Ag,F8]),[F8,F8,F8],rfl,⟨_,rfl,⟨(.agg #[Ag,Ag,Ag]),[F8],rfl,⟨_,rfl,⟨Ag,[Ag,Ag],rfl,rfl,⟨Ag,[Ag],rfl,rfl,⟨Ag,[],rfl,rfl,rfl⟩⟩⟩⟩,⟨F8,[],rfl,rfl,rfl⟩⟩⟩,⟨(.agg #[F8,F8,F8]),[],rfl,⟨_,rfl,⟨F8,[F8,F8],rfl,rfl,⟨F8,[F8],rfl,rfl,⟨F8,[],rfl,rfl,rfl⟩⟩⟩⟩,rfl⟩⟩⟩)
def aaf:NS prog 69 [4,3]=true:=A7
def arI:Gi prog 55 69 7=true:=A7
def ab8:Du prog 55=true:=A7
def arK:Fu prog 55 69 7 88=true:=A7
def aa2:Du prog 157=true:=A7
def aak:G2 prog 157 1=true:=A7
def abd:Bp prog 70 1 false=true:=A7
def ang:Dn prog 70 (TL (TL C1) []):=FZ Al A7 (λ_=>zTL)
def apV:Gi prog 157 70 1=true:=A7
def aq9:G2 prog 55 7=true:=A7
def aqQ:Bp prog 69 7 true=true:=A7
def jb:Gi prog 81 85 3=true:=A7
def UP:Du prog 81=true:=A7
def je:Fu prog 81 85 3 72=true:=A7
def qq:G2 prog 81 3=true:=A7
abbrev AS[D:DR](f:Nat)(a:List Ty)(r:List Ty):Prop:=Ef prog f a (.vs r)
end Trn
