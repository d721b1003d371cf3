/-
  Part of the proof of SolidForms.
-/
import Derived.Test.YtflhfjdapojoiaaGreatDoorLc
set_option maxRecDepth 100000
set_option maxHeartbeats 20000000
set_option linter.all false
open Go Go.RowKit Go.Proofs Go.Proofs.Tryz
namespace Trn
def ar1:kj [IK] ((1,1,0),[51])=some ([[((-1,0,0),[48]),((0,-1,0),[48]),((0,0,-1),[48]),((0,0,1),[52]),((1,0,0),[50]),((1,1,0),[51])]],0):=A4
def aqp:jh [IK] ((1,1,0),[51])=some (([56],[56],[48]),0):=A4
def aqo:ja [IK] [bxD]=some ([(((1,0,0),[50]),[49],[48],[48])],0):=A4
def aqn:kP [IK] [bxD]=some ([IK,bxD],0):=A4
def aqr:Wx [IK] ([50],[49,47,50],[49,47,50])=some (0,0):=A4
def aqq:Wx [IK,bxD] ([50],[49,47,50],[49,47,50])=some (1,0):=A4
def aqu:kY [([48],[48],[48]),([49],[48],[48]),([48],[49],[48]),([48],[48],[49])]=some ([((-1,0,0),[48]),((0,-1,0),[48]),((0,0,-1),[48]),((1,1,1),[49])],0):=A4
def aql:kQ IK ([48],[48],[49])=some ([((-1,0,0),[48]),((0,-1,0),[48]),((0,0,-1),[48]),((0,0,1),[53]),((0,1,0),[51]),((1,0,0),[50])],0):=A4
def aqj:ju [IK]=some (([49],[51,47,50],[50]),0):=A4
def aqs:X7 (IK.take 3)=some ([],13):=A4
def ar0:X7 (IK++[((1,0,0),[48])])=some ([],12):=A4
def ahD:Ss=some true:=by
 have key:Yd (λr=>r=true) Ss:=by
  unfold Ss;refine Yd.bd (x:=IK) rfl ?_;refine Yd.bd (x:=bxC) rfl ?_;refine Yd.bd (x:=bxD) rfl ?_;refine Yd.bd aqm ?_;refine Yd.bd ar2 ?_;refine Yd.bd aqt ?_;refine Yd.bd (x:=((1,1,0),[51])) rfl ?_;refine Yd.bd ar1 ?_;refine Yd.bd (x:=((1,1,0),[51])) rfl ?_;refine Yd.bd aqp ?_;refine Yd.bd aqo ?_;refine Yd.bd aqn ?_;refine Yd.bd aqr ?_;refine Yd.bd aqq ?_;refine Yd.bd (x:=([48],[48],[48])) A4 ?_;refine Yd.bd (x:=([49],[48],[48])) A4 ?_;refine Yd.bd (x:=([48],[49],[48])) A4 ?_;refine Yd.bd (x:=([48],[48],[49])) A4 ?_;refine Yd.bd aqu ?_;refine Yd.bd (x:=IK) rfl ?_;refine Yd.bd (x:=([48],[48],[49])) A4 ?_;refine Yd.bd aql ?_;refine Yd.bd aqj ?_;refine Yd.bd (x:=IK) rfl ?_;refine Yd.bd (x:=IK.take 3) rfl ?_;refine Yd.bd aqs ?_;refine Yd.bd (x:=IK) rfl ?_;refine Yd.bd (x:=IK) rfl ?_;refine Yd.bd (x:=((1,0,0),[48])) rfl ?_;refine Yd.bd (x:=IK++[((1,0,0),[48])]) rfl ?_;refine Yd.bd ar0 ?_;exact⟨true,A4,rfl⟩
 obtain⟨r,e,rfl⟩:=key;exact e
def acO(l:A3 GD)(hi:∀x∈l,∀h∈x,in3 h.1):Sb l=some true:=acN ahD l hi
end Trn
