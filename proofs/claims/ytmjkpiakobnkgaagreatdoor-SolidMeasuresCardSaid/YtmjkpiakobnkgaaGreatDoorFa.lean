/- Part of SolidMeasures. -/
import Derived.Test.YtmjkpiakobnkgaaGreatDoorEb
import Derived.Test.YtmjkpiakobnkgaaGreatDoorProg
set_option maxRecDepth 100000
set_option maxHeartbeats 20000000
set_option linter.all false
open Go Go.RowKit Go.Proofs Go.Proofs.Tryz
namespace Trn
abbrev Ag:Value:= .int .i64 0
abbrev An:Value:= .slice none 0 0
abbrev FK:Value:= .string ⟨#[]⟩
def mixed:prog.follows .mixedOrders=true:=A6
@[reducible] def Mc(x:Int×Int×Int):Ty:=DH [TiZ x.1,TiZ x.2.1,TiZ x.2.2]
@[reducible] def Ar(x:(Int×Int×Int)×AA):Ty:=DH [Mc x.1,TS x.2]
@[reducible] def JV(x:Bool×A3 Int):Ty:=DH [Ay x.1,(TL TiZ) x.2]
@[reducible] def Bf(x:AA×AA×AA):Ty:=DH [TS x.1,TS x.2.1,TS x.2.2]
@[reducible] def Mu(x:ShZ):Ty:=DH [(TL Ar) x.1,(TL Bf) x.2.1,(TL (TL TiZ)) x.2.2]
@[reducible] def B4(x:Rat×Rat×Rat):Ty:=DH [C3 x.1,C3 x.2.1,C3 x.2.2]
@[reducible] def Eo(x:V3×Rat):Ty:=DH [B4 x.1,C3 x.2]
@[reducible] def fF(x:(Int×A3 Int)×(Int×A3 Int)):Ty:=DH [Cn x.1,Cn x.2]
@[reducible] def C6(x:PlZ×(A3 V3)):Ty:=DH [Eo x.1,(TL B4) x.2]
@[reducible] def abF(x:Int×Int):Ty:=DH [TiZ x.1,TiZ x.2]
@[reducible] def wE(x:V3×V3):Ty:=DH [B4 x.1,B4 x.2]
@[reducible] def NZ(x:(Int×Int×Int)×AA):Ty:=DH [Mc x.1,TS x.2]
@[reducible] def LB(x:HfZ×Bj):Ty:=DH [Ar x.1,Bf x.2]
def LW:E4 prog 59=true:=A6
def RF:GP prog 59 4=true:=A6
def LK:Gf prog 42 1 3=true:=A6
def X:Bv prog 26 1 false=true:=A6
def MY:isStr prog 26=true:=A6
def Jb:E4 prog 23=true:=A6
def Je:GP prog 23 1=true:=A6
def KD:Bv prog 59 1 false=true:=A6
def Y:isStr prog 9=true:=A6
def arD:TF prog 5 .u8=true:=A6
def Sv:TF prog 3 .i64=true:=A6
def DK:E4 prog 140=true:=A6
def DL:GP prog 140 1=true:=A6
def C:Bv prog 3 1 false=true:=A6
def IZ:Du prog 190 (JV (false,[])):=Fp (.agg #[.bool false,An]) A6 (λ_=>⟨_,rfl,⟨(.bool false),[An],rfl,rfl,⟨An,[],rfl,zTL,rfl⟩⟩⟩)
def amO:Ng prog 190 [1,1]=true:=A6
def Dg:Bv prog 190 2 true=true:=A6
def Hp:Du prog 3 (TiZ 0):=Fp Ag A6 (λ_=>rfl)
def IE:HE prog 140 3 1=true:=A6
def Mk:GO prog 140 3 1 8=true:=A6
def ji:mkB prog 140 3 1 8=true:=A6
def I7:Gf prog 190 1 1=true:=A6
def G6:Bv prog 140 1 false=true:=A6
def G4:Gf prog 42 0 0=true:=A6
def JG:Bv prog 40 3 true=true:=A6
def jJ:Du prog 40 (Mc (0,0,0)):=Fp (.agg #[Ag,Ag,Ag]) A6 (λ_=>⟨_,rfl,⟨Ag,[Ag,Ag],rfl,rfl,⟨Ag,[Ag],rfl,rfl,⟨Ag,[],rfl,rfl,rfl⟩⟩⟩⟩)
def Gu:Lf prog 40 3 1=true:=A6
def G7:E4 prog 58=true:=A6
def G8:GP prog 58 4=true:=A6
def Ds:Bv prog 42 4 true=true:=A6
def OM:Gf prog 190 0 0=true:=A6
def Oz:Bv prog 4 1 false=true:=A6
def Z:Du prog 31 (Bf ([],[],[])):=Fp (.agg #[FK,FK,FK]) A6 (λ_=>⟨_,rfl,⟨FK,[FK,FK],rfl,rfl,⟨FK,[FK],rfl,rfl,⟨FK,[],rfl,rfl,rfl⟩⟩⟩⟩)
def D9:Lf prog 31 3 1=true:=A6
def m:Bv prog 31 3 true=true:=A6
def Wc:X6 prog 4=true:=A6
def RM:HE prog 58 42 4=true:=A6
def Oo:GO prog 58 42 4 40=true:=A6
def JY:Du prog 42 (Ar ((0,0,0),[])):=Fp (.agg #[Ag,Ag,Ag,FK]) A6 (λ_=>⟨_,rfl,⟨(.agg #[Ag,Ag,Ag]),[FK],rfl,⟨_,rfl,⟨Ag,[Ag,Ag],rfl,rfl,⟨Ag,[Ag],rfl,rfl,⟨Ag,[],rfl,rfl,rfl⟩⟩⟩⟩,⟨FK,[],rfl,rfl,rfl⟩⟩⟩)
def Gd:E4 prog 71=true:=A6
def Eh:GP prog 71 3=true:=A6
def Om:HE prog 71 31 3=true:=A6
def On:GO prog 71 31 3 48=true:=A6
def Np:Du prog 99 (Mu ([],[],[])):=Fp (.agg #[An,An,An]) A6 (λ_=>⟨_,rfl,⟨An,[An,An],rfl,zTL,⟨An,[An],rfl,zTL,⟨An,[],rfl,zTL,rfl⟩⟩⟩⟩)
def pQ:Du prog 99 (DH [TN Ar [],TN Bf [],TN (TL TiZ) []]):=Fp (.agg #[An,An,An]) A6 (λ_=>⟨_,rfl,⟨An,[An,An],rfl,zTN,⟨An,[An],rfl,zTN,⟨An,[],rfl,zTN,rfl⟩⟩⟩⟩)
def Qs:Gf prog 99 0 0=true:=A6
def RI:Bv prog 58 1 false=true:=A6
def Ma:Gf prog 99 1 1=true:=A6
def Mm:Bv prog 71 1 false=true:=A6
def Qr:Gf prog 99 2 2=true:=A6
def RH:Bv prog 97 1 false=true:=A6
def Z6:Du prog 140 (TL TiZ []):=Fp An A6 (λ_=>zTL)
def ai:HE prog 97 140 1=true:=A6
def Ug:E4 prog 97=true:=A6
def an:GO prog 97 140 1 24=true:=A6
def Fg:Bv prog 99 3 true=true:=A6
def jK:Ng prog 99 [1,1,1]=true:=A6
def RE:GP prog 97 1=true:=A6
def abI:Du prog 26 (TS []):=Fp FK A6 (λ_=>rfl)
def abw:HE prog 142 26 1=true:=A6
def qg:E4 prog 142=true:=A6
def aqf:GO prog 142 26 1 16=true:=A6
def Qx:GP prog 142 1=true:=A6
def jL:Ng prog 42 [3,1]=true:=A6
def sL:HE prog 59 42 4=true:=A6
def Es:Du prog 82 (Cn (0,[])):=Fp (.agg #[Ag,An]) A6 (λ_=>⟨_,rfl,⟨Ag,[An],rfl,rfl,⟨An,[],rfl,zTN,rfl⟩⟩⟩)
def NB:Ng prog 82 [1,1]=true:=A6
def g:Bv prog 82 2 true=true:=A6
def Wd:TF prog 272 .u64=true:=A6
def Lv:Gf prog 82 1 1=true:=A6
def M4:Bv prog 80 1 false=true:=A6
def DY:E4 prog 80=true:=A6
def GK:Gf prog 82 0 0=true:=A6
def Qa:Du prog 272 (TI .u64 0):=Fp (.int .u64 0) A6 (λ_=>rfl)
def sK:HE prog 80 272 1=true:=A6
def D8:GP prog 80 1=true:=A6
def DM:Bv prog 272 1 false=true:=A6
def anx:TF prog 240 .u64=true:=A6
def XG:mkB prog 80 272 1 8=true:=A6
def apy:Gq prog 303=true:=A6
def aaf:E4 prog 196=true:=A6
def abS:GP prog 196 1=true:=A6
def acH:Bv prog 27 1 false=true:=A6
def apq:jx prog 40 3 3 1=true:=A6
def Zz:Du prog 27 (TiZ 0):=Fp Ag A6 (λ_=>rfl)
def aS:HE prog 196 27 1=true:=A6
def Ep:Du prog 84 (Ip 4 true):=Fp (.agg #[Ag,An,Ag,An]) A6 (λ_=>Ko rfl rfl)
def pR:Du prog 84 (DH [Ip 2 true,Ip 2 true]):=Fp (.agg #[Ag,An,Ag,An]) A6 (λ_=>⟨_,rfl,⟨(.agg #[Ag,An]),[Ag,An],rfl,Ko rfl rfl,⟨(.agg #[Ag,An]),[],rfl,Ko rfl rfl,rfl⟩⟩⟩)
def aA:Ng prog 84 [2,2]=true:=A6
def d:Bv prog 84 4 true=true:=A6
def Dq:Du prog 86 (Ip 12 true):=Fp (.agg #[Ag,An,Ag,An,Ag,An,Ag,An,Ag,An,Ag,An]) A6 (λ_=>Ko rfl rfl)
def SJ:Du prog 86 (DH [Ip 4 true,Ip 4 true,Ip 4 true]):=Fp (.agg #[Ag,An,Ag,An,Ag,An,Ag,An,Ag,An,Ag,An]) A6 (λ_=>⟨_,rfl,⟨(.agg #[Ag,An,Ag,An]),[Ag,An,Ag,An,Ag,An,Ag,An],rfl,Ko rfl rfl,⟨(.agg #[Ag,An,Ag,An]),[Ag,An,Ag,An],rfl,Ko rfl rfl,⟨(.agg #[Ag,An,Ag,An]),[],rfl,Ko rfl rfl,rfl⟩⟩⟩⟩)
def Cw:Lf prog 86 3 4=true:=A6
def B:Bv prog 86 12 true=true:=A6
def K2:Du prog 116 (Ip 16 true):=Fp (.agg #[Ag,An,Ag,An,Ag,An,Ag,An,Ag,An,Ag,An,Ag,An,Ag,An]) A6 (λ_=>Ko rfl rfl)
def SB:Du prog 116 (DH [Ip 12 true,Ip 4 true]):=Fp (.agg #[Ag,An,Ag,An,Ag,An,Ag,An,Ag,An,Ag,An,Ag,An,Ag,An]) A6 (λ_=>⟨_,rfl,⟨(.agg #[Ag,An,Ag,An,Ag,An,Ag,An,Ag,An,Ag,An]),[Ag,An,Ag,An],rfl,Ko rfl rfl,⟨(.agg #[Ag,An,Ag,An]),[],rfl,Ko rfl rfl,rfl⟩⟩⟩)
def SK:Ng prog 116 [12,4]=true:=A6
def Ea:Bv prog 116 16 true=true:=A6
def Ws:HE prog 113 116 16=true:=A6
def N9:E4 prog 113=true:=A6
def Wu:GO prog 113 116 16 256=true:=A6
def Lu:Gf prog 84 0 0=true:=A6
def LJ:Gf prog 84 1 2=true:=A6
def Zv:E4 prog 135=true:=A6
def r8:GP prog 135 4=true:=A6
def ra:HE prog 135 84 4=true:=A6
def rj:GO prog 135 84 4 64=true:=A6
def aqA:Gq prog 256=true:=A6
def om:Du prog 84 (fF ((0,[]),(0,[]))):=Fp (.agg #[Ag,An,Ag,An]) A6 (λ_=>⟨_,rfl,⟨(.agg #[Ag,An]),[Ag,An],rfl,⟨_,rfl,⟨Ag,[An],rfl,rfl,⟨An,[],rfl,zTN,rfl⟩⟩⟩,⟨(.agg #[Ag,An]),[],rfl,⟨_,rfl,⟨Ag,[An],rfl,rfl,⟨An,[],rfl,zTN,rfl⟩⟩⟩,rfl⟩⟩⟩)
def Ii:Bv prog 129 1 false=true:=A6
def HB:E4 prog 129=true:=A6
def HY:GP prog 129 12=true:=A6
def apz:Gq prog 285=true:=A6
def Oj:HE prog 129 86 12=true:=A6
def Ny:GO prog 129 86 12 192=true:=A6
def WC:Du prog 200 (abF (0,0)):=Fp (.agg #[Ag,Ag]) A6 (λ_=>⟨_,rfl,⟨Ag,[Ag],rfl,rfl,⟨Ag,[],rfl,rfl,rfl⟩⟩⟩)
def Wt:Lf prog 200 2 1=true:=A6
def aqa:HE prog 201 200 2=true:=A6
def anw:E4 prog 201=true:=A6
def aog:GP prog 201 2=true:=A6
def abh:Bv prog 200 2 true=true:=A6
def oj:Du prog 131 (DH [Ip 16 true,Ip 1 false]):=Fp (.agg #[Ag,An,Ag,An,Ag,An,Ag,An,Ag,An,Ag,An,Ag,An,Ag,An,An]) A6 (λ_=>⟨_,rfl,⟨(.agg #[Ag,An,Ag,An,Ag,An,Ag,An,Ag,An,Ag,An,Ag,An,Ag,An]),[An],rfl,Ko rfl rfl,⟨An,[],rfl,Ko rfl rfl,rfl⟩⟩⟩)
def pg:Ng prog 131 [16,1]=true:=A6
def N0:Du prog 131 (Ip 17 true):=Fp (.agg #[Ag,An,Ag,An,Ag,An,Ag,An,Ag,An,Ag,An,Ag,An,Ag,An,An]) A6 (λ_=>Ko rfl rfl)
def rb:HE prog 112 131 17=true:=A6
def MZ:E4 prog 112=true:=A6
def rr:GO prog 112 131 17 280=true:=A6
def LF:Gf prog 116 0 0=true:=A6
def Nd:Gf prog 116 1 12=true:=A6
def ajz:Du prog 217 (DH [Ip 12 true,Ip 12 true]):=Fp (.agg #[Ag,An,Ag,An,Ag,An,Ag,An,Ag,An,Ag,An,Ag,An,Ag,An,Ag,An,Ag,An,Ag,An,Ag,An]) A6 (λ_=>⟨_,rfl,⟨(.agg #[Ag,An,Ag,An,Ag,An,Ag,An,Ag,An,Ag,An]),[Ag,An,Ag,An,Ag,An,Ag,An,Ag,An,Ag,An],rfl,Ko rfl rfl,⟨(.agg #[Ag,An,Ag,An,Ag,An,Ag,An,Ag,An,Ag,An]),[],rfl,Ko rfl rfl,rfl⟩⟩⟩)
def R8:Lf prog 217 2 12=true:=A6
def aqB:Gq prog 231=true:=A6
def ajy:Du prog 129 (TN B4 []):=Fp An A6 (λ_=>zTN)
def xk:Du prog 217 (Ip 24 true):=Fp (.agg #[Ag,An,Ag,An,Ag,An,Ag,An,Ag,An,Ag,An,Ag,An,Ag,An,Ag,An,Ag,An,Ag,An,Ag,An]) A6 (λ_=>Ko rfl rfl)
def abg:Bv prog 217 24 true=true:=A6
def Pn:GP prog 112 17=true:=A6
def JC:Bv prog 131 17 true=true:=A6
def QY:Gf prog 131 1 16=true:=A6
def ON:Gf prog 131 0 0=true:=A6
def Uc:GP prog 113 16=true:=A6
def jY:jx prog 86 84 3 4=true:=A6
def Z7:Du prog 112 (TL C6 []):=Fp An A6 (λ_=>zTL)
def aj:HE prog 77 112 1=true:=A6
def JD:E4 prog 77=true:=A6
def X7:GO prog 77 112 1 24=true:=A6
def NJ:GP prog 77 1=true:=A6
def Nw:Bv prog 112 1 false=true:=A6
def aqj:Du prog 9 (TS []):=Fp FK A6 (λ_=>rfl)
def aqD:HE prog 312 9 1=true:=A6
def aad:E4 prog 312=true:=A6
def aqe:GO prog 312 9 1 16=true:=A6
def amB:(prog.info? 320).bind (·.zero)=some (.agg #[.pointer none,An]):=A6
def aof:GP prog 312 1=true:=A6
def ase:Bv prog 9 1 false=true:=A6
def alZ:rU prog 84 82 0 0=true:=A6
def abf:Bv prog 250 1 false=true:=A6
def aqC:Gq prog 195=true:=A6
def as8:GO prog 59 42 4 40=true:=A6
def jI:Du prog 59 (TL Ar []):=Fp An A6 (λ_=>zTL)
def jy:HE prog 23 59 1=true:=A6
def asB:GO prog 23 59 1 24=true:=A6
def pS:Du prog 165 (NZ ((0,0,0),[])):=Fp (.agg #[Ag,Ag,Ag,FK]) A6 (λ_=>⟨_,rfl,⟨(.agg #[Ag,Ag,Ag]),[FK],rfl,⟨_,rfl,⟨Ag,[Ag,Ag],rfl,rfl,⟨Ag,[Ag],rfl,rfl,⟨Ag,[],rfl,rfl,rfl⟩⟩⟩⟩,⟨FK,[],rfl,rfl,rfl⟩⟩⟩)
def amP:Ng prog 165 [3,1]=true:=A6
def jU:Bv prog 165 4 true=true:=A6
def qR:Ut prog 162 165 86=true:=A6
def j9:Gf prog 76 0 0=true:=A6
def alc:Gf prog 165 0 0=true:=A6
def alb:Gf prog 165 1 3=true:=A6
def qu:Du prog 76 (LB (((0,0,0),[]),([],[],[]))):=Fp (.agg #[Ag,Ag,Ag,FK,FK,FK,FK]) A6 (λ_=>⟨_,rfl,⟨(.agg #[Ag,Ag,Ag,FK]),[FK,FK,FK],rfl,⟨_,rfl,⟨(.agg #[Ag,Ag,Ag]),[FK],rfl,⟨_,rfl,⟨Ag,[Ag,Ag],rfl,rfl,⟨Ag,[Ag],rfl,rfl,⟨Ag,[],rfl,rfl,rfl⟩⟩⟩⟩,⟨FK,[],rfl,rfl,rfl⟩⟩⟩,⟨(.agg #[FK,FK,FK]),[],rfl,⟨_,rfl,⟨FK,[FK,FK],rfl,rfl,⟨FK,[FK],rfl,rfl,⟨FK,[],rfl,rfl,rfl⟩⟩⟩⟩,rfl⟩⟩⟩)
def abN:Ng prog 76 [4,3]=true:=A6
def as4:HE prog 65 76 7=true:=A6
def abk:E4 prog 65=true:=A6
def as7:GO prog 65 76 7 88=true:=A6
def aae:E4 prog 244=true:=A6
def abR:GP prog 244 1=true:=A6
def acG:Bv prog 77 1 false=true:=A6
def aoQ:Du prog 77 (TL (TL C6) []):=Fp An A6 (λ_=>zTL)
def aqE:HE prog 244 77 1=true:=A6
def aqr:GP prog 65 7=true:=A6
def arB:Bv prog 76 7 true=true:=A6
abbrev AQ[D:DR](f:Nat)(a:List Ty)(r:List Ty):Prop:=Eg prog f a (.vs r)
end Trn
