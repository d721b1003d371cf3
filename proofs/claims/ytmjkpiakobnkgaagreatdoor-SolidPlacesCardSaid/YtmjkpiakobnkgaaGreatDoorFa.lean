/- Part of SolidPlaces. -/
import Derived.Test.YtmjkpiakobnkgaaGreatDoorEb
import Derived.Test.YtmjkpiakobnkgaaGreatDoorProg
set_option maxRecDepth 100000
set_option maxHeartbeats 20000000
set_option linter.all false
open Go Go.RowKit Go.Proofs Go.Proofs.Tryz
namespace Trn
abbrev Af:Value:= .int .i64 0
abbrev Ao:Value:= .slice none 0 0
abbrev EM:Value:= .string ⟨#[]⟩
def mixed:prog.follows .mixedOrders=true:=A6
@[reducible] def K1(x:Int×Int×Int):Ty:=Cl [TiZ x.1,TiZ x.2.1,TiZ x.2.2]
@[reducible] def Ai(x:(Int×Int×Int)×AA):Ty:=Cl [K1 x.1,TS x.2]
@[reducible] def Hb(x:Bool×A3 Int):Ty:=Cl [Az x.1,(TL TiZ) x.2]
@[reducible] def BQ(x:AA×AA×AA):Ty:=Cl [TS x.1,TS x.2.1,TS x.2.2]
@[reducible] def IN(x:ShZ):Ty:=Cl [(TL Ai) x.1,(TL BQ) x.2.1,(TL (TL TiZ)) x.2.2]
@[reducible] def B3(x:Rat×Rat×Rat):Ty:=Cl [Be x.1,Be x.2.1,Be x.2.2]
@[reducible] def Dz(x:V3×Rat):Ty:=Cl [B3 x.1,Be x.2]
@[reducible] def az(x:(Int×A3 Int)×(Int×A3 Int)):Ty:=Cl [CR x.1,CR x.2]
@[reducible] def Bp(x:PlZ×(A3 V3)):Ty:=Cl [Dz x.1,(TL B3) x.2]
@[reducible] def aCX(x:Int×Int):Ty:=Cl [TiZ x.1,TiZ x.2]
@[reducible] def uK(x:V3×V3):Ty:=Cl [B3 x.1,B3 x.2]
@[reducible] def Kx(x:(Int×Int×Int)×AA):Ty:=Cl [K1 x.1,TS x.2]
@[reducible] def Ip(x:HfZ×Ba):Ty:=Cl [Ai x.1,BQ x.2]
def Ig:DJ prog 59=true:=A6
def MN:Et prog 59 4=true:=A6
def IY:FI prog 42 1 3=true:=A6
def S:Bj prog 26 1 false=true:=A6
def Iz:isStr prog 26=true:=A6
def HF:DJ prog 23=true:=A6
def GA:Et prog 23 1=true:=A6
def GV:Bj prog 59 1 false=true:=A6
def Y:isStr prog 9=true:=A6
def ape:R0 prog 5 .u8=true:=A6
def Qj:R0 prog 3 .i64=true:=A6
def Ci:DJ prog 140=true:=A6
def Ch:Et prog 140 1=true:=A6
def C:Bj prog 3 1 false=true:=A6
def Gj:DF prog 190 (Hb (false,[])):=Ec (.agg #[.bool false,Ao]) A6 (λ_=>⟨_,rfl,⟨(.bool false),[Ao],rfl,rfl,⟨Ao,[],rfl,zTL,rfl⟩⟩⟩)
def alK:L7 prog 190 [1,1]=true:=A6
def D4:Bj prog 190 2 true=true:=A6
def Fs:DF prog 3 (TiZ 0):=Ec Af A6 (λ_=>rfl)
def G4:FJ prog 140 3 1=true:=A6
def K7:Es prog 140 3 1 8=true:=A6
def gZ:mkB prog 140 3 1 8=true:=A6
def GN:FI prog 190 1 1=true:=A6
def Ew:Bj prog 140 1 false=true:=A6
def ET:FI prog 42 0 0=true:=A6
def Gr:Bj prog 40 3 true=true:=A6
def fU:DF prog 40 (K1 (0,0,0)):=Ec (.agg #[Af,Af,Af]) A6 (λ_=>⟨_,rfl,⟨Af,[Af,Af],rfl,rfl,⟨Af,[Af],rfl,rfl,⟨Af,[],rfl,rfl,rfl⟩⟩⟩⟩)
def FD:IC prog 40 3 1=true:=A6
def EW:DJ prog 58=true:=A6
def Ep:Et prog 58 4=true:=A6
def Cb:Bj prog 42 4 true=true:=A6
def Lu:FI prog 190 0 0=true:=A6
def MW:Bj prog 4 1 false=true:=A6
def Cj:DF prog 31 (BQ ([],[],[])):=Ec (.agg #[EM,EM,EM]) A6 (λ_=>⟨_,rfl,⟨EM,[EM,EM],rfl,rfl,⟨EM,[EM],rfl,rfl,⟨EM,[],rfl,rfl,rfl⟩⟩⟩⟩)
def Z:IC prog 31 3 1=true:=A6
def B:Bj prog 31 3 true=true:=A6
def Uu:VX prog 4=true:=A6
def MQ:FJ prog 58 42 4=true:=A6
def Kj:Es prog 58 42 4 40=true:=A6
def Ff:DF prog 42 (Ai ((0,0,0),[])):=Ec (.agg #[Af,Af,Af,EM]) A6 (λ_=>⟨_,rfl,⟨(.agg #[Af,Af,Af]),[EM],rfl,⟨_,rfl,⟨Af,[Af,Af],rfl,rfl,⟨Af,[Af],rfl,rfl,⟨Af,[],rfl,rfl,rfl⟩⟩⟩⟩,⟨EM,[],rfl,rfl,rfl⟩⟩⟩)
def FB:DJ prog 71=true:=A6
def EX:Et prog 71 3=true:=A6
def LU:FJ prog 71 31 3=true:=A6
def MR:Es prog 71 31 3 48=true:=A6
def IZ:DF prog 99 (IN ([],[],[])):=Ec (.agg #[Ao,Ao,Ao]) A6 (λ_=>⟨_,rfl,⟨Ao,[Ao,Ao],rfl,zTL,⟨Ao,[Ao],rfl,zTL,⟨Ao,[],rfl,zTL,rfl⟩⟩⟩⟩)
def oF:DF prog 99 (Cl [TN Ai [],TN BQ [],TN (TL TiZ) []]):=Ec (.agg #[Ao,Ao,Ao]) A6 (λ_=>⟨_,rfl,⟨Ao,[Ao,Ao],rfl,zTN,⟨Ao,[Ao],rfl,zTN,⟨Ao,[],rfl,zTN,rfl⟩⟩⟩⟩)
def OO:FI prog 99 0 0=true:=A6
def MO:Bj prog 58 1 false=true:=A6
def KZ:FI prog 99 1 1=true:=A6
def KB:Bj prog 71 1 false=true:=A6
def ON:FI prog 99 2 2=true:=A6
def NY:Bj prog 97 1 false=true:=A6
def Xc:DF prog 140 (TL TiZ []):=Ec Ao A6 (λ_=>zTL)
def Yq:FJ prog 97 140 1=true:=A6
def Sp:DJ prog 97=true:=A6
def Yu:Es prog 97 140 1 24=true:=A6
def Dk:Bj prog 99 3 true=true:=A6
def fW:L7 prog 99 [1,1,1]=true:=A6
def Oi:Et prog 97 1=true:=A6
def po:DF prog 26 (TS []):=Ec EM A6 (λ_=>rfl)
def qU:FJ prog 142 26 1=true:=A6
def fA:DJ prog 142=true:=A6
def ap8:Es prog 142 26 1 16=true:=A6
def NH:Et prog 142 1=true:=A6
def Sg:L7 prog 42 [3,1]=true:=A6
def ql:FJ prog 59 42 4=true:=A6
def E1:DF prog 82 (CR (0,[])):=Ec (.agg #[Af,Ao]) A6 (λ_=>⟨_,rfl,⟨Af,[Ao],rfl,rfl,⟨Ao,[],rfl,zTN,rfl⟩⟩⟩)
def Ka:L7 prog 82 [1,1]=true:=A6
def g:Bj prog 82 2 true=true:=A6
def Uv:R0 prog 272 .u64=true:=A6
def JV:FI prog 82 1 1=true:=A6
def Jd:Bj prog 80 1 false=true:=A6
def Cv:DJ prog 80=true:=A6
def F3:FI prog 82 0 0=true:=A6
def O7:DF prog 272 (TI .u64 0):=Ec (.int .u64 0) A6 (λ_=>rfl)
def qk:FJ prog 80 272 1=true:=A6
def Cf:Et prog 80 1=true:=A6
def Cn:Bj prog 272 1 false=true:=A6
def amQ:R0 prog 240 .u64=true:=A6
def Vb:mkB prog 80 272 1 8=true:=A6
def aor:FQ prog 303=true:=A6
def zg:DJ prog 196=true:=A6
def aDj:Et prog 196 1=true:=A6
def aaj:Bj prog 27 1 false=true:=A6
def aoe:gw prog 40 3 3 1=true:=A6
def Sf:DF prog 27 (TiZ 0):=Ec Af A6 (λ_=>rfl)
def Ss:FJ prog 196 27 1=true:=A6
def Di:DF prog 84 (Gt 4 true):=Ec (.agg #[Af,Ao,Af,Ao]) A6 (λ_=>Ij rfl rfl)
def oG:DF prog 84 (Cl [Gt 2 true,Gt 2 true]):=Ec (.agg #[Af,Ao,Af,Ao]) A6 (λ_=>⟨_,rfl,⟨(.agg #[Af,Ao]),[Af,Ao],rfl,Ij rfl rfl,⟨(.agg #[Af,Ao]),[],rfl,Ij rfl rfl,rfl⟩⟩⟩)
def YR:L7 prog 84 [2,2]=true:=A6
def d:Bj prog 84 4 true=true:=A6
def DB:DF prog 86 (Gt 12 true):=Ec (.agg #[Af,Ao,Af,Ao,Af,Ao,Af,Ao,Af,Ao,Af,Ao]) A6 (λ_=>Ij rfl rfl)
def Pz:DF prog 86 (Cl [Gt 4 true,Gt 4 true,Gt 4 true]):=Ec (.agg #[Af,Ao,Af,Ao,Af,Ao,Af,Ao,Af,Ao,Af,Ao]) A6 (λ_=>⟨_,rfl,⟨(.agg #[Af,Ao,Af,Ao]),[Af,Ao,Af,Ao,Af,Ao,Af,Ao],rfl,Ij rfl rfl,⟨(.agg #[Af,Ao,Af,Ao]),[Af,Ao,Af,Ao],rfl,Ij rfl rfl,⟨(.agg #[Af,Ao,Af,Ao]),[],rfl,Ij rfl rfl,rfl⟩⟩⟩⟩)
def CY:IC prog 86 3 4=true:=A6
def m:Bj prog 86 12 true=true:=A6
def Hw:DF prog 116 (Gt 16 true):=Ec (.agg #[Af,Ao,Af,Ao,Af,Ao,Af,Ao,Af,Ao,Af,Ao,Af,Ao,Af,Ao]) A6 (λ_=>Ij rfl rfl)
def Po:DF prog 116 (Cl [Gt 12 true,Gt 4 true]):=Ec (.agg #[Af,Ao,Af,Ao,Af,Ao,Af,Ao,Af,Ao,Af,Ao,Af,Ao,Af,Ao]) A6 (λ_=>⟨_,rfl,⟨(.agg #[Af,Ao,Af,Ao,Af,Ao,Af,Ao,Af,Ao,Af,Ao]),[Af,Ao,Af,Ao],rfl,Ij rfl rfl,⟨(.agg #[Af,Ao,Af,Ao]),[],rfl,Ij rfl rfl,rfl⟩⟩⟩)
def Q0:L7 prog 116 [12,4]=true:=A6
def Dt:Bj prog 116 16 true=true:=A6
def VE:FJ prog 113 116 16=true:=A6
def KW:DJ prog 113=true:=A6
def VG:Es prog 113 116 16 256=true:=A6
def JU:FI prog 84 0 0=true:=A6
def J2:FI prog 84 1 2=true:=A6
def QQ:DJ prog 135=true:=A6
def V7:Et prog 135 4=true:=A6
def gJ:FJ prog 135 84 4=true:=A6
def gP:Es prog 135 84 4 64=true:=A6
def aot:FQ prog 256=true:=A6
def nM:DF prog 84 (az ((0,[]),(0,[]))):=Ec (.agg #[Af,Ao,Af,Ao]) A6 (λ_=>⟨_,rfl,⟨(.agg #[Af,Ao]),[Af,Ao],rfl,⟨_,rfl,⟨Af,[Ao],rfl,rfl,⟨Ao,[],rfl,zTN,rfl⟩⟩⟩,⟨(.agg #[Af,Ao]),[],rfl,⟨_,rfl,⟨Af,[Ao],rfl,rfl,⟨Ao,[],rfl,zTN,rfl⟩⟩⟩,rfl⟩⟩⟩)
def Gn:Bj prog 129 1 false=true:=A6
def FR:DJ prog 129=true:=A6
def Fo:Et prog 129 12=true:=A6
def aos:FQ prog 285=true:=A6
def ML:FJ prog 129 86 12=true:=A6
def LN:Es prog 129 86 12 192=true:=A6
def UU:DF prog 200 (aCX (0,0)):=Ec (.agg #[Af,Af]) A6 (λ_=>⟨_,rfl,⟨Af,[Af],rfl,rfl,⟨Af,[],rfl,rfl,rfl⟩⟩⟩)
def VF:IC prog 200 2 1=true:=A6
def aoy:FJ prog 201 200 2=true:=A6
def amP:DJ prog 201=true:=A6
def anb:Et prog 201 2=true:=A6
def aa8:Bj prog 200 2 true=true:=A6
def nL:DF prog 131 (Cl [Gt 16 true,Gt 1 false]):=Ec (.agg #[Af,Ao,Af,Ao,Af,Ao,Af,Ao,Af,Ao,Af,Ao,Af,Ao,Af,Ao,Ao]) A6 (λ_=>⟨_,rfl,⟨(.agg #[Af,Ao,Af,Ao,Af,Ao,Af,Ao,Af,Ao,Af,Ao,Af,Ao,Af,Ao]),[Ao],rfl,Ij rfl rfl,⟨Ao,[],rfl,Ij rfl rfl,rfl⟩⟩⟩)
def oR:L7 prog 131 [16,1]=true:=A6
def KO:DF prog 131 (Gt 17 true):=Ec (.agg #[Af,Ao,Af,Ao,Af,Ao,Af,Ao,Af,Ao,Af,Ao,Af,Ao,Af,Ao,Ao]) A6 (λ_=>Ij rfl rfl)
def qV:FJ prog 112 131 17=true:=A6
def Jz:DJ prog 112=true:=A6
def qY:Es prog 112 131 17 280=true:=A6
def Ir:FI prog 116 0 0=true:=A6
def L5:FI prog 116 1 12=true:=A6
def aiu:DF prog 217 (Cl [Gt 12 true,Gt 12 true]):=Ec (.agg #[Af,Ao,Af,Ao,Af,Ao,Af,Ao,Af,Ao,Af,Ao,Af,Ao,Af,Ao,Af,Ao,Af,Ao,Af,Ao,Af,Ao]) A6 (λ_=>⟨_,rfl,⟨(.agg #[Af,Ao,Af,Ao,Af,Ao,Af,Ao,Af,Ao,Af,Ao]),[Af,Ao,Af,Ao,Af,Ao,Af,Ao,Af,Ao,Af,Ao],rfl,Ij rfl rfl,⟨(.agg #[Af,Ao,Af,Ao,Af,Ao,Af,Ao,Af,Ao,Af,Ao]),[],rfl,Ij rfl rfl,rfl⟩⟩⟩)
def Oa:IC prog 217 2 12=true:=A6
def aou:FQ prog 231=true:=A6
def ait:DF prog 129 (TN B3 []):=Ec Ao A6 (λ_=>zTN)
def ve:DF prog 217 (Gt 24 true):=Ec (.agg #[Af,Ao,Af,Ao,Af,Ao,Af,Ao,Af,Ao,Af,Ao,Af,Ao,Af,Ao,Af,Ao,Af,Ao,Af,Ao,Af,Ao]) A6 (λ_=>Ij rfl rfl)
def aa7:Bj prog 217 24 true=true:=A6
def NI:Et prog 112 17=true:=A6
def HE:Bj prog 131 17 true=true:=A6
def O5:FI prog 131 1 16=true:=A6
def Lv:FI prog 131 0 0=true:=A6
def Si:Et prog 113 16=true:=A6
def gI:gw prog 86 84 3 4=true:=A6
def Xd:DF prog 112 (TL Bp []):=Ec Ao A6 (λ_=>zTL)
def Yr:FJ prog 77 112 1=true:=A6
def GS:DJ prog 77=true:=A6
def VY:Es prog 77 112 1 24=true:=A6
def K9:Et prog 77 1=true:=A6
def Kg:Bj prog 112 1 false=true:=A6
def apC:DF prog 9 (TS []):=Ec EM A6 (λ_=>rfl)
def aow:FJ prog 312 9 1=true:=A6
def ze:DJ prog 312=true:=A6
def ap4:Es prog 312 9 1 16=true:=A6
def akw:(prog.info? 320).bind (·.zero)=some (.agg #[.pointer none,Ao]):=A6
def ana:Et prog 312 1=true:=A6
def aqW:Bj prog 9 1 false=true:=A6
def akE:gG prog 84 82 0 0=true:=A6
def aa6:Bj prog 250 1 false=true:=A6
def aov:FQ prog 195=true:=A6
def aqD:Es prog 59 42 4 40=true:=A6
def fT:DF prog 59 (TL Ai []):=Ec Ao A6 (λ_=>zTL)
def gy:FJ prog 23 59 1=true:=A6
def aqE:Es prog 23 59 1 24=true:=A6
def oH:DF prog 165 (Kx ((0,0,0),[])):=Ec (.agg #[Af,Af,Af,EM]) A6 (λ_=>⟨_,rfl,⟨(.agg #[Af,Af,Af]),[EM],rfl,⟨_,rfl,⟨Af,[Af,Af],rfl,rfl,⟨Af,[Af],rfl,rfl,⟨Af,[],rfl,rfl,rfl⟩⟩⟩⟩,⟨EM,[],rfl,rfl,rfl⟩⟩⟩)
def alL:L7 prog 165 [3,1]=true:=A6
def fk:Bj prog 165 4 true=true:=A6
def pF:T9 prog 162 165 86=true:=A6
def fD:FI prog 76 0 0=true:=A6
def akG:FI prog 165 0 0=true:=A6
def akF:FI prog 165 1 3=true:=A6
def pn:DF prog 76 (Ip (((0,0,0),[]),([],[],[]))):=Ec (.agg #[Af,Af,Af,EM,EM,EM,EM]) A6 (λ_=>⟨_,rfl,⟨(.agg #[Af,Af,Af,EM]),[EM,EM,EM],rfl,⟨_,rfl,⟨(.agg #[Af,Af,Af]),[EM],rfl,⟨_,rfl,⟨Af,[Af,Af],rfl,rfl,⟨Af,[Af],rfl,rfl,⟨Af,[],rfl,rfl,rfl⟩⟩⟩⟩,⟨EM,[],rfl,rfl,rfl⟩⟩⟩,⟨(.agg #[EM,EM,EM]),[],rfl,⟨_,rfl,⟨EM,[EM,EM],rfl,rfl,⟨EM,[EM],rfl,rfl,⟨EM,[],rfl,rfl,rfl⟩⟩⟩⟩,rfl⟩⟩⟩)
def aDg:L7 prog 76 [4,3]=true:=A6
def aqA:FJ prog 65 76 7=true:=A6
def aaB:DJ prog 65=true:=A6
def aqC:Es prog 65 76 7 88=true:=A6
def zf:DJ prog 244=true:=A6
def aDi:Et prog 244 1=true:=A6
def aai:Bj prog 77 1 false=true:=A6
def anH:DF prog 77 (TL (TL Bp) []):=Ec Ao A6 (λ_=>zTL)
def aox:FJ prog 244 77 1=true:=A6
def apH:Et prog 65 7=true:=A6
def apY:Bj prog 76 7 true=true:=A6
def anI:DF prog 58 (TL Ai []):=Ec Ao A6 (λ_=>zTL)
def ap0:FJ prog 143 58 1=true:=A6
def pU:DJ prog 143=true:=A6
def ap6:Es prog 143 58 1 24=true:=A6
def aDk:Et prog 143 1=true:=A6
def akD:gG prog 99 71 1 1=true:=A6
def aoz:FJ prog 148 99 3=true:=A6
def zh:DJ prog 148=true:=A6
def ap5:Es prog 148 99 3 72=true:=A6
def anc:Et prog 148 3=true:=A6
abbrev AQ[D:DR](f:Nat)(a:List Ty)(r:List Ty):Prop:=Dy prog f a (.vs r)
end Trn
