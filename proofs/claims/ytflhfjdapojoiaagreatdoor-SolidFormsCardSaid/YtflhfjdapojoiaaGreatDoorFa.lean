/-
  Part of the proof of SolidForms.
-/
import Derived.Test.YtflhfjdapojoiaaGreatDoorEc
import Derived.Test.YtflhfjdapojoiaaGreatDoorProg
set_option maxRecDepth 100000
set_option maxHeartbeats 20000000
set_option linter.all false
open Go Go.RowKit Go.Proofs Go.Proofs.Tryz
namespace Trn
abbrev AW:Value:= .int .i64 0
abbrev Ac:Value:= .slice none 0 0
abbrev Em:Value:= .string ⟨#[]⟩
def mixed:prog.follows .mixedOrders=true:=A4
@[reducible] def M4(x:Int×Int×Int):Ty:=Co [TiZ x.1,TiZ x.2.1,TiZ x.2.2]
@[reducible] def Ah(x:(Int×Int×Int)×A9):Ty:=Co [M4 x.1,TS x.2]
@[reducible] def Ap(x:Rat×Rat×Rat):Ty:=Co [Bb x.1,Bb x.2.1,Bb x.2.2]
@[reducible] def EJ(x:V3×Rat):Ty:=Co [Ap x.1,Bb x.2]
@[reducible] def cq(x:(Int×A3 Int)×(Int×A3 Int)):Ty:=Co [CD x.1,CD x.2]
@[reducible] def Bc(x:PlZ×(A3 V3)):Ty:=Co [EJ x.1,(TL Ap) x.2]
@[reducible] def yr(x:Int×Int):Ty:=Co [TiZ x.1,TiZ x.2]
@[reducible] def tT(x:V3×V3):Ty:=Co [Ap x.1,Ap x.2]
@[reducible] def C3(x:A9×A9×A9):Ty:=Co [TS x.1,TS x.2.1,TS x.2.2]
@[reducible] def Mt(x:(Int×Int×Int)×A9):Ty:=Co [M4 x.1,TS x.2]
@[reducible] def KU(x:HfZ×Bz):Ty:=Co [Ah x.1,C3 x.2]
@[reducible] def Is(x:Bool×A3 Int):Ty:=Co [Ar x.1,(TL TiZ) x.2]
@[reducible] def OV(x:ShZ):Ty:=Co [(TL Ah) x.1,(TL C3) x.2.1,(TL (TL TiZ)) x.2.2]
def Ko:Db prog 25=true:=A4
def QR:Fl prog 25 4=true:=A4
def Ka:G5 prog 49 1 3=true:=A4
def Z:BX prog 47 1 false=true:=A4
def ND:isStr prog 47=true:=A4
def Iw:DS prog 49 (Ah ((0,0,0),[])):=FA (.agg #[AW,AW,AW,Em]) A4 (λ_=>⟨_,rfl,⟨(.agg #[AW,AW,AW]),[Em],rfl,⟨_,rfl,⟨AW,[AW,AW],rfl,rfl,⟨AW,[AW],rfl,rfl,⟨AW,[],rfl,rfl,rfl⟩⟩⟩⟩,⟨Em,[],rfl,rfl,rfl⟩⟩⟩)
def gN:DS prog 46 (M4 (0,0,0)):=FA (.agg #[AW,AW,AW]) A4 (λ_=>⟨_,rfl,⟨AW,[AW,AW],rfl,rfl,⟨AW,[AW],rfl,rfl,⟨AW,[],rfl,rfl,rfl⟩⟩⟩⟩)
def GC:Kw prog 46 3 1=true:=A4
def gQ:N4 prog 49 [3,1]=true:=A4
def DT:BX prog 49 4 true=true:=A4
def pj:GZ prog 25 49 4=true:=A4
def EN:DS prog 93 (CD (0,[])):=FA (.agg #[AW,Ac]) A4 (λ_=>⟨_,rfl,⟨AW,[Ac],rfl,rfl,⟨Ac,[],rfl,zTN,rfl⟩⟩⟩)
def MV:N4 prog 93 [1,1]=true:=A4
def g:BX prog 93 2 true=true:=A4
def SA:SQ prog 3 .i64=true:=A4
def Vh:SQ prog 255 .u64=true:=A4
def LH:G5 prog 93 1 1=true:=A4
def LR:BX prog 91 1 false=true:=A4
def Cz:Db prog 91=true:=A4
def Fb:G5 prog 93 0 0=true:=A4
def B:BX prog 3 1 false=true:=A4
def Px:DS prog 255 (TI .u64 0):=FA (.int .u64 0) A4 (λ_=>rfl)
def pf:GZ prog 91 255 1=true:=A4
def CY:Fl prog 91 1=true:=A4
def Cn:BX prog 255 1 false=true:=A4
def alG:SQ prog 200 .u64=true:=A4
def WW:mkB prog 91 255 1 8=true:=A4
def anZ:GA prog 285=true:=A4
def Vg:WK prog 4=true:=A4
def X:isStr prog 9=true:=A4
def yN:Db prog 178=true:=A4
def zA:Fl prog 178 1=true:=A4
def aa3:BX prog 26 1 false=true:=A4
def FL:G5 prog 49 0 0=true:=A4
def IY:BX prog 46 3 true=true:=A4
def an5:iN prog 46 3 3 1=true:=A4
def Z4:DS prog 26 (TiZ 0):=FA AW A4 (λ_=>rfl)
def ZO:GZ prog 178 26 1=true:=A4
def Fp:Db prog 22=true:=A4
def Fg:Fl prog 22 4=true:=A4
def Cr:Db prog 170=true:=A4
def Cm:Fl prog 170 1=true:=A4
def Hi:DS prog 3 (TiZ 0):=FA AW A4 (λ_=>rfl)
def I6:GZ prog 170 3 1=true:=A4
def EK:DS prog 95 (IB 4 true):=FA (.agg #[AW,Ac,AW,Ac]) A4 (λ_=>K8 rfl rfl)
def nL:DS prog 95 (Co [IB 2 true,IB 2 true]):=FA (.agg #[AW,Ac,AW,Ac]) A4 (λ_=>⟨_,rfl,⟨(.agg #[AW,Ac]),[AW,Ac],rfl,K8 rfl rfl,⟨(.agg #[AW,Ac]),[],rfl,K8 rfl rfl,rfl⟩⟩⟩)
def Z5:N4 prog 95 [2,2]=true:=A4
def d:BX prog 95 4 true=true:=A4
def DM:DS prog 97 (IB 12 true):=FA (.agg #[AW,Ac,AW,Ac,AW,Ac,AW,Ac,AW,Ac,AW,Ac]) A4 (λ_=>K8 rfl rfl)
def RM:DS prog 97 (Co [IB 4 true,IB 4 true,IB 4 true]):=FA (.agg #[AW,Ac,AW,Ac,AW,Ac,AW,Ac,AW,Ac,AW,Ac]) A4 (λ_=>⟨_,rfl,⟨(.agg #[AW,Ac,AW,Ac]),[AW,Ac,AW,Ac,AW,Ac,AW,Ac],rfl,K8 rfl rfl,⟨(.agg #[AW,Ac,AW,Ac]),[AW,Ac,AW,Ac],rfl,K8 rfl rfl,⟨(.agg #[AW,Ac,AW,Ac]),[],rfl,K8 rfl rfl,rfl⟩⟩⟩⟩)
def Y:Kw prog 97 3 4=true:=A4
def m:BX prog 97 12 true=true:=A4
def JJ:DS prog 111 (IB 16 true):=FA (.agg #[AW,Ac,AW,Ac,AW,Ac,AW,Ac,AW,Ac,AW,Ac,AW,Ac,AW,Ac]) A4 (λ_=>K8 rfl rfl)
def RD:DS prog 111 (Co [IB 12 true,IB 4 true]):=FA (.agg #[AW,Ac,AW,Ac,AW,Ac,AW,Ac,AW,Ac,AW,Ac,AW,Ac,AW,Ac]) A4 (λ_=>⟨_,rfl,⟨(.agg #[AW,Ac,AW,Ac,AW,Ac,AW,Ac,AW,Ac,AW,Ac]),[AW,Ac,AW,Ac],rfl,K8 rfl rfl,⟨(.agg #[AW,Ac,AW,Ac]),[],rfl,K8 rfl rfl,rfl⟩⟩⟩)
def RN:N4 prog 111 [12,4]=true:=A4
def E6:BX prog 111 16 true=true:=A4
def Vz:GZ prog 136 111 16=true:=A4
def MU:Db prog 136=true:=A4
def W5:Fi prog 136 111 16 256=true:=A4
def LG:G5 prog 95 0 0=true:=A4
def KZ:G5 prog 95 1 2=true:=A4
def Yx:Db prog 221=true:=A4
def om:Fl prog 221 4=true:=A4
def pM:GZ prog 221 95 4=true:=A4
def pQ:Fi prog 221 95 4 64=true:=A4
def anc:GA prog 162=true:=A4
def mN:DS prog 95 (cq ((0,[]),(0,[]))):=FA (.agg #[AW,Ac,AW,Ac]) A4 (λ_=>⟨_,rfl,⟨(.agg #[AW,Ac]),[AW,Ac],rfl,⟨_,rfl,⟨AW,[Ac],rfl,rfl,⟨Ac,[],rfl,zTN,rfl⟩⟩⟩,⟨(.agg #[AW,Ac]),[],rfl,⟨_,rfl,⟨AW,[Ac],rfl,rfl,⟨Ac,[],rfl,zTN,rfl⟩⟩⟩,rfl⟩⟩⟩)
def I5:BX prog 114 1 false=true:=A4
def GR:Db prog 114=true:=A4
def Gt:Fl prog 114 12=true:=A4
def ana:GA prog 262=true:=A4
def OD:GZ prog 114 97 12=true:=A4
def NM:Fi prog 114 97 12 192=true:=A4
def aoc:SQ prog 5 .u8=true:=A4
def VE:DS prog 211 (yr (0,0)):=FA (.agg #[AW,AW]) A4 (λ_=>⟨_,rfl,⟨AW,[AW],rfl,rfl,⟨AW,[],rfl,rfl,rfl⟩⟩⟩)
def W0:Kw prog 211 2 1=true:=A4
def anf:GZ prog 212 211 2=true:=A4
def alF:Db prog 212=true:=A4
def am5:Fl prog 212 2=true:=A4
def zP:BX prog 211 2 true=true:=A4
def mL:DS prog 116 (Co [IB 16 true,IB 1 false]):=FA (.agg #[AW,Ac,AW,Ac,AW,Ac,AW,Ac,AW,Ac,AW,Ac,AW,Ac,AW,Ac,Ac]) A4 (λ_=>⟨_,rfl,⟨(.agg #[AW,Ac,AW,Ac,AW,Ac,AW,Ac,AW,Ac,AW,Ac,AW,Ac,AW,Ac]),[Ac],rfl,K8 rfl rfl,⟨Ac,[],rfl,K8 rfl rfl,rfl⟩⟩⟩)
def nW:N4 prog 116 [16,1]=true:=A4
def MP:DS prog 116 (IB 17 true):=FA (.agg #[AW,Ac,AW,Ac,AW,Ac,AW,Ac,AW,Ac,AW,Ac,AW,Ac,AW,Ac,Ac]) A4 (λ_=>K8 rfl rfl)
def pg:GZ prog 75 116 17=true:=A4
def M9:Db prog 75=true:=A4
def po:Fi prog 75 116 17 280=true:=A4
def KW:G5 prog 111 0 0=true:=A4
def N0:G5 prog 111 1 12=true:=A4
def ahx:DS prog 193 (Co [IB 12 true,IB 12 true]):=FA (.agg #[AW,Ac,AW,Ac,AW,Ac,AW,Ac,AW,Ac,AW,Ac,AW,Ac,AW,Ac,AW,Ac,AW,Ac,AW,Ac,AW,Ac]) A4 (λ_=>⟨_,rfl,⟨(.agg #[AW,Ac,AW,Ac,AW,Ac,AW,Ac,AW,Ac,AW,Ac]),[AW,Ac,AW,Ac,AW,Ac,AW,Ac,AW,Ac,AW,Ac],rfl,K8 rfl rfl,⟨(.agg #[AW,Ac,AW,Ac,AW,Ac,AW,Ac,AW,Ac,AW,Ac]),[],rfl,K8 rfl rfl,rfl⟩⟩⟩)
def QM:Kw prog 193 2 12=true:=A4
def anb:GA prog 190=true:=A4
def ahu:DS prog 114 (TN Ap []):=FA Ac A4 (λ_=>zTN)
def uw:DS prog 193 (IB 24 true):=FA (.agg #[AW,Ac,AW,Ac,AW,Ac,AW,Ac,AW,Ac,AW,Ac,AW,Ac,AW,Ac,AW,Ac,AW,Ac,AW,Ac,AW,Ac]) A4 (λ_=>K8 rfl rfl)
def zQ:BX prog 193 24 true=true:=A4
def PL:Fl prog 75 17=true:=A4
def IT:BX prog 116 17 true=true:=A4
def Pw:G5 prog 116 1 16=true:=A4
def Np:G5 prog 116 0 0=true:=A4
def Tg:Fl prog 136 16=true:=A4
def gn:iN prog 97 95 3 4=true:=A4
def Kn:Db prog 41=true:=A4
def K2:Fl prog 41 1=true:=A4
def Ks:BX prog 25 1 false=true:=A4
def Z3:DS prog 75 (TL Bc []):=FA Ac A4 (λ_=>zTL)
def ZW:GZ prog 87 75 1=true:=A4
def IU:Db prog 87=true:=A4
def WL:Fi prog 87 75 1 24=true:=A4
def Ma:Fl prog 87 1=true:=A4
def NR:BX prog 75 1 false=true:=A4
def ao4:DS prog 9 (TS []):=FA Em A4 (λ_=>rfl)
def ane:GZ prog 293 9 1=true:=A4
def yK:Db prog 293=true:=A4
def ano:Fi prog 293 9 1 16=true:=A4
def ajo:(prog.info? 301).bind (·.zero)=some (.agg #[.pointer none,Ac]):=A4
def am4:Fl prog 293 1=true:=A4
def aqh:BX prog 9 1 false=true:=A4
def ajC:pF prog 95 93 0 0=true:=A4
def zR:BX prog 155 1 false=true:=A4
def apJ:GA prog 93=true:=A4
def api:Fi prog 25 49 4 40=true:=A4
def gP:DS prog 25 (TL Ah []):=FA Ac A4 (λ_=>zTL)
def iP:GZ prog 41 25 1=true:=A4
def aph:Fi prog 41 25 1 24=true:=A4
def De:DS prog 58 (C3 ([],[],[])):=FA (.agg #[Em,Em,Em]) A4 (λ_=>⟨_,rfl,⟨Em,[Em,Em],rfl,rfl,⟨Em,[Em],rfl,rfl,⟨Em,[],rfl,rfl,rfl⟩⟩⟩⟩)
def DA:Kw prog 58 3 1=true:=A4
def C:BX prog 58 3 true=true:=A4
def nM:DS prog 125 (Mt ((0,0,0),[])):=FA (.agg #[AW,AW,AW,Em]) A4 (λ_=>⟨_,rfl,⟨(.agg #[AW,AW,AW]),[Em],rfl,⟨_,rfl,⟨AW,[AW,AW],rfl,rfl,⟨AW,[AW],rfl,rfl,⟨AW,[],rfl,rfl,rfl⟩⟩⟩⟩,⟨Em,[],rfl,rfl,rfl⟩⟩⟩)
def ak1:N4 prog 125 [3,1]=true:=A4
def gh:BX prog 125 4 true=true:=A4
def oE:Tv prog 122 125 97=true:=A4
def gG:G5 prog 72 0 0=true:=A4
def ajE:G5 prog 125 0 0=true:=A4
def ajD:G5 prog 125 1 3=true:=A4
def og:DS prog 72 (KU (((0,0,0),[]),([],[],[]))):=FA (.agg #[AW,AW,AW,Em,Em,Em,Em]) A4 (λ_=>⟨_,rfl,⟨(.agg #[AW,AW,AW,Em]),[Em,Em,Em],rfl,⟨_,rfl,⟨(.agg #[AW,AW,AW]),[Em],rfl,⟨_,rfl,⟨AW,[AW,AW],rfl,rfl,⟨AW,[AW],rfl,rfl,⟨AW,[],rfl,rfl,rfl⟩⟩⟩⟩,⟨Em,[],rfl,rfl,rfl⟩⟩⟩,⟨(.agg #[Em,Em,Em]),[],rfl,⟨_,rfl,⟨Em,[Em,Em],rfl,rfl,⟨Em,[Em],rfl,rfl,⟨Em,[],rfl,rfl,rfl⟩⟩⟩⟩,rfl⟩⟩⟩)
def yz:N4 prog 72 [4,3]=true:=A4
def apc:GZ prog 61 72 7=true:=A4
def zT:Db prog 61=true:=A4
def apg:Fi prog 61 72 7 88=true:=A4
def yM:Db prog 207=true:=A4
def z7:Fl prog 207 1=true:=A4
def aa2:BX prog 87 1 false=true:=A4
def aln:DS prog 87 (TL (TL Bc) []):=FA Ac A4 (λ_=>zTL)
def ank:GZ prog 207 87 1=true:=A4
def yL:Db prog 210=true:=A4
def Ru:Fl prog 210 1=true:=A4
def Hz:DS prog 217 (Is (false,[])):=FA (.agg #[.bool false,Ac]) A4 (λ_=>⟨_,rfl,⟨(.bool false),[Ac],rfl,rfl,⟨Ac,[],rfl,zTL,rfl⟩⟩⟩)
def ak0:N4 prog 217 [1,1]=true:=A4
def D9:BX prog 217 2 true=true:=A4
def MC:Fi prog 170 3 1 8=true:=A4
def HZ:G5 prog 217 1 1=true:=A4
def Ff:BX prog 170 1 false=true:=A4
def No:G5 prog 217 0 0=true:=A4
def OR:BX prog 4 1 false=true:=A4
def MA:Db prog 32=true:=A4
def NN:Fl prog 32 3=true:=A4
def ZY:GZ prog 32 58 3=true:=A4
def QU:GZ prog 22 49 4=true:=A4
def OH:Fi prog 22 49 4 40=true:=A4
def aoN:Fl prog 61 7=true:=A4
def aoa:BX prog 72 7 true=true:=A4
def iA:mkB prog 170 3 1 8=true:=A4
def iQ:Fi prog 32 58 3 48=true:=A4
def NF:DS prog 35 (OV ([],[],[])):=FA (.agg #[Ac,Ac,Ac]) A4 (λ_=>⟨_,rfl,⟨Ac,[Ac,Ac],rfl,zTL,⟨Ac,[Ac],rfl,zTL,⟨Ac,[],rfl,zTL,rfl⟩⟩⟩⟩)
def nK:DS prog 35 (Co [TN Ah [],TN C3 [],TN (TL TiZ) []]):=FA (.agg #[Ac,Ac,Ac]) A4 (λ_=>⟨_,rfl,⟨Ac,[Ac,Ac],rfl,zTN,⟨Ac,[Ac],rfl,zTN,⟨Ac,[],rfl,zTN,rfl⟩⟩⟩⟩)
def Vj:G5 prog 35 0 0=true:=A4
def WB:BX prog 22 1 false=true:=A4
def PD:G5 prog 35 1 1=true:=A4
def PS:BX prog 32 1 false=true:=A4
def Rs:G5 prog 35 2 2=true:=A4
def S9:BX prog 33 1 false=true:=A4
def YD:DS prog 170 (TL TiZ []):=FA Ac A4 (λ_=>zTL)
def ZX:GZ prog 33 170 1=true:=A4
def Ti:Db prog 33=true:=A4
def Za:Fi prog 33 170 1 24=true:=A4
def FO:BX prog 35 3 true=true:=A4
def gR:N4 prog 35 [1,1,1]=true:=A4
def S5:Fl prog 33 1=true:=A4
def alo:DS prog 47 (TS []):=FA Em A4 (λ_=>rfl)
def ang:GZ prog 210 47 1=true:=A4
def anp:Fi prog 210 47 1 16=true:=A4
abbrev AN[D:DR](f:Nat)(a:List Ty)(r:List Ty):Prop:=EE prog f a (.vs r)
end Trn
