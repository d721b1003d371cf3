/-
  Part of the proof of SolidNormals.
-/
import Derived.Test.YtflhfjdapojoiaaGreatDoorWh
set_option maxRecDepth 100000
set_option maxHeartbeats 20000000
set_option linter.all false
open Go Go.RowKit Go.Proofs Go.Proofs.Tryz
namespace Trn
section
variable[D:DR]
def Du{a0 r}(q:iv a0=some r):c8 3 [(TL aq) a0] [bj r]:=
 dR func3 O aH<|rS<|cB<|U 1 O<|ae<|kT q fun x1 h2 q=>rS<|cM<|cJ mi O<|cP (b9 (aT O) aI)<|cM<|gV O O (ov 0 O on) (fun vK=>oM O)<|gV O O (oo 11 O id on) (fun hg2=>mS mi (aT O))<|gV O O (oo 12 O id on) (fun Y=>Ge (aT O) aI)<|cP (dD (aT O) O jZ)<|cM<|gV O O (ov 0 O on) (fun zC=>oM O)<|gV O O (oo 16 O id on) (fun CD=>mS mi (aT O))<|gV O O (oo 17 O id on) (fun Dj=>b9 (aT O) aI)<|cP (gj (aT O) O j8)<|cM<|gV O O (ov 0 O on) (fun Nz=>oM O)<|gV O O (oo 21 O id on) (fun Un=>oC (GS (h2 Un)) O)<|gV O O (oo 22 O id on) (fun Yg=>fT (aT O))<|cP (gj (aT O) O j8)<|cF [0,24] O<|gc O q (fun hb3 q=>bn q fun x4 h5 q=>rS<|cC (AT h5) O<|cA<|U 4 O<|an (fz q O)) fun hb3 q=>ah (ax (bn q fun x6 h7 q=>rS<|cM<|cC (yP h7) O<|cZ<|cE<|cE<|cA<|cA<|U 25 O<|ae<|rS<|cM<|cJ mi O<|cP (b9 (aT O) aI)<|cF [0,3,4,33] O<|gc O q (fun vE q=>kT q fun x9 lA q=>kT q fun gT M q=>rS<|cM<|cJ p6 O<|cP (cw (aT O) aI)<|cM<|gV O O (ov 4 O on) (fun NC=>oM O)<|gV O O (oo 38 O id on) (fun NB=>cw (aT O) aI)<|cP (dD (aT O) O jZ)<|cM<|gV O O (ov 0 O on) (fun Ju=>oM O)<|gV O O (oo 42 O id on) (fun OY=>oC (zT (lA OY)) O)<|gV O O (oo 43 O id on) (fun OX=>cw (aT O) aI)<|cP (dD (aT O) O jZ)<|cM<|gV O O on (fun NA=>oC (AT (M NA)) O)<|cP (dD (aT O) O jZ)<|cA<|U 4 O<|an (fz q O)) fun vE q=>ah<|ax<|ae<|kM q fun j9 P jH S q=>rS<|cM<|cC (zT P) O<|cM<|cC (GX S) O<|cP (dH (aT O) (aT O))<|cF [0,3,4,53] O<|gc O q (fun Gn q=>rS<|cB<|U 4 O<|an (fz q O)) fun Gn q=>ah (ax (bn q fun kZ uo q=>rS<|cM<|cC (xV uo) O<|cA<|U 57 O<|rS<|cT IV<|U 121 O<|ae<|rS<|cM<|cP (cw (aT O) aI)<|cF [0,3,4,5,6,57] O<|xu [3,4] O (α:=Int×((att ((Int×Int×Int)×ad3))×(att av5)×(att (att Int)))) (fun Vc=>[(5,.val (TiZ Vc.1)),(6,.own 35 (nv Vc.2))]) q (fun k21 q=>by exact gc O q (fun RQ q=>bn q fun oe zO q=>by exact rK<|cM<|cC (FE zO) O<|cZ<|cE<|cE<|cs O O O Ea<|cO (oA O)<|U 120 O (cm q O)) fun RQ q=>ah (cm q O)) (fun Vc q=>by exact ax<|bn q fun qW CF q=>kT q fun rJ Fv q=>rS<|cM<|cM<|cM<|o0 0 O Iz O Ua<|cC (QA CF) O<|cM<|gV O O on (fun OW=>oC (AT (Fv OW)) O)<|cP (dD (aT O) O jZ)<|cA<|U 4 O<|an (fz q O))))))
end
end Trn
