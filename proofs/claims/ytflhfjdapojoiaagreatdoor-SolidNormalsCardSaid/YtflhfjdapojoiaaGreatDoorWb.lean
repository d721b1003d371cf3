/-
  Part of the proof of SolidNormals.
-/
import Derived.Test.YtflhfjdapojoiaaGreatDoorWa
set_option maxRecDepth 100000
set_option maxHeartbeats 20000000
set_option linter.all false
open Go Go.RowKit Go.Proofs Go.Proofs.Tryz
namespace Trn
section
variable[D:DR]
def wG{a0 a1 r}(q:nO a0 a1=some r):c8 152 [a7 a0,a7 a1] [a7 r]:=
 dR func152 O aH<|rS<|cX<|cX<|cT gH<|U 28 O<|ae<|rS<|o0 1 O po O zA<|cP (uJ dK (aT O))<|cM<|gV O O (ov 3 O on) (fun vK=>bM O po)<|gV O O (oo 14 O id (ov 3 O on)) (fun hg2=>oP 1 O O zA)<|gV O O (oo 15 O id on) (fun Y=>uJ dK (aT O))<|cP (dD (aT O) O jZ)<|U 131100 O<|xu [2,3] O (α:=(Int×att Int)) (fun s1=>[(4,.own 93 (a7 s1))]) q (fun k2 q=>by exact gc O q (fun hb3 q=>rS<|o0 0 O gQ O B<|o0 0 O gQ O B<|cP (vV (aT O) (aT O))<|cA<|U 60 O<|rS<|cM<|o0 0 O gQ O B<|cP (b9 (aT O) (aT O))<|o0 0 O gQ O B<|cP (b9 (aT O) aI)<|cP (Rb E6 (aT O) (aT O))<|U 1073741884 O<|gc O q (fun Iv q=>rS<|cM<|cP (bB gH vR O)<|cs O O O g<|cF [4] O<|an (qV q O g)) fun Iv q=>ah (cm q O)) fun hb3 q=>ah (cm q O)) (fun s1 q=>by exact ax<|bn q fun x5 h6 q=>rS<|cU O g<|cC (jf h6) O<|cZ<|cE<|cE<|cA<|cA<|U 216 O<|bn q fun x7 h8 q=>rS<|cU O g<|cC (jf h8) O<|cZ<|cE<|cE<|cA<|cA<|U 976 O<|ae<|ai<|rS<|cM<|cM<|cP (Rb E6 (aT O) (aT O))<|cA<|cF [4,6,7,8,9,43] O<|gc O q (fun Up q=>kM q fun iI nA iY Q q=>rS<|cM<|cM<|cM<|cC (Mk nA) O<|cC (tw Q) O<|cs O O O g<|cF [4] O<|an (qV q O g)) fun Up q=>bn q fun jR T q=>rS<|cM<|cM<|cC (yQ T) O<|cP (nD (aT O) aI)<|cA<|cF [4,6,7,8,9,52] O<|gc O q (fun Jy q=>kM q fun jN V kq xt q=>rS<|cM<|cM<|cM<|cC (Ds V) O<|cC (tw xt) O<|cs O O O g<|cF [4] O<|an (qV q O g)) fun Jy q=>ah (ax (kM q fun og Be oe zO q=>rS<|cM<|cM<|cM<|cC (Ds Be) O<|cC (tw zO) O<|cs O O O g<|cF [4] O<|an (qV q O g))))
def FH{a0 a1 r}(q:sJ a0 a1=some r):c8 215 [a7 a0,a7 a1] [a7 r]:=
 dR func215 O aH<|rS<|cX<|cX<|cT gH<|U 28 O<|kM q fun x1 h2 x3 h4 q=>gE 5 mixed<|dP [2] O (ak O g)<|dP [3] O (ak O g)<|dP [6] O (oC (lF h2) O)<|dP [5,7] O (oC (wG h4) O)<|dS [4,8] O (ds O O O g)<|dN<|dE [4] O aH<|cD<|an (qV q O g)
def Bs{a0 a1 r}(q:oK a0 a1=some r):c8 184 [a7 a0,a7 a1] [a7 r.1,a7 r.2]:=
 dR func184 O aH<|rS<|cX<|cX<|cT gH<|cT gH<|U 60 O<|ae<|rS<|o0 1 O po O zA<|cP (uJ dK (aT O))<|cM<|gV O O (ov 3 O on) (fun vK=>bM O po)<|gV O O (oo 20 O id (ov 3 O on)) (fun hg2=>oP 1 O O zA)<|gV O O (oo 21 O id on) (fun Y=>uJ dK (aT O))<|cP (dD (aT O) O jZ)<|cM<|gV O O (ov 2 O on) (fun zC=>bM O gQ)<|gV O O (oo 25 O id (ov 2 O on)) (fun CD=>oP 0 O O B)<|gV O O (oo 26 O id on) (fun Dj=>dH (aT O) aI)<|cP (dD (aT O) O jZ)<|U 268435516 O<|gc O q (fun hb1 q=>kM q fun x2 h3 x4 h5 q=>gE 12 mixed<|dQ 0 O gQ O B<|dQ 0 O gQ O B<|dP [30,32] O (sX (aT O) (aT O) h3)<|dQ 0 O gQ O B<|dQ 0 O gQ O B<|dP [35,37] O (n5 (aT O) (aT O) h5)<|dP [33] O (oA O)<|dP [38] O (oA O)<|dN<|dE [3,4,5,6,7] O aH<|cD<|ae<|rS<|cM<|cP (dJ (aT O) aI)<|cF [3,4,5,6,7,40] O<|xu [4,5] O (α:=Int×Int) (fun s6=>[(6,.val (TiZ s6.1)),(7,.val (TiZ s6.2))]) q (fun k7 q=>by exact gc O q (fun vE q=>kM q fun x9 lA gT M q=>gD 8 mixed<|dP [6] O (oM O)<|dP [41] O (bF (aT O) aI lA)<|dP [7] O (oM O)<|dQ 0 O gQ O B<|dP [43,45] O (bH (aT O) (aT O) M)<|dP [42] O (oA O)<|dP [46] O (oA O)<|dN<|dE [4,5,6,7] O aH<|cD (cm q O)) fun vE q=>ah (cm q O)) (fun s6 q=>by exact ax<|rS<|cM<|cP (bB gH vR O)<|cM<|cP (bB gH vR O)<|cs O O O g<|cs O O O g<|U 48 O<|by cases q;exact an (eM O O (bg.cell O (nm g) O (bg.cell O (nm g) O bg.nil))))) fun hb1 q=>ah (ax (bn q fun j9 P q=>rS<|cU O g<|cC (jf P) O<|cZ<|cE<|cE<|cA<|cA<|U 824 O<|bn q fun jH S q=>rS<|cU O g<|cC (jf S) O<|cZ<|cE<|cE<|cA<|cA<|U 2872 O<|bn q fun jN V q=>rS<|cM<|cM<|cC (G0 V) O<|cZ<|cE<|cE<|cA<|cA<|U 12600 O<|kM q fun kq xt og Be q=>rS<|cM<|cM<|cC (tw xt) O<|cM<|cM<|cC (tw Be) O<|cT gH<|cT gH<|cs O O O g<|cs O O O g<|U 49208 O<|ae<|bn q fun oe zO q=>rS<|cU O g<|cC (oi zO) O<|cP (dJ (aT O) aI)<|cF [3,4,5,14,15,75] O<|xu [4,5] O (α:=(Int×att Int)×(Int×att Int)) (fun AU=>[(14,.own 93 (a7 AU.1)),(15,.own 93 (a7 AU.2))]) q (fun Vd q=>by exact gc O q (fun Wq q=>wZ q fun yE Gq yg Iw wx O1 q=>gD 8 mixed<|dP [14] O (ak O g)<|dP [] O (oC (Dt Gq) O)<|dP [76,77] O (oC (FH Iw) O)<|dP [15] O (ak O g)<|dP [3] O (ak O g)<|dP [79,80] O (oC (wG O1) O)<|dS [14,78] O (ds O O O g)<|dS [15,81] O (ds O O O g)<|dN<|dE [4,5,14,15] O aH<|cD (cm q O)) fun Wq q=>ah (cm q O)) (fun AU q=>by exact ax<|gE 4 mixed<|dP [14] O (ak O g)<|dP [15] O (ak O g)<|dS [4,82] O (ds O O O g)<|dS [5,83] O (ds O O O g)<|dN<|dE [4,5] O aH<|cD<|by cases q;exact an (eM O O (bg.cell O (nm g) O (bg.cell O (nm g) O bg.nil))))))
def Pj{a0 a1 r}(q:EJ a0 a1=some r):c8 120 [a7 a0,a7 a1] [a7 r]:=
 dR func120 O aH<|rS<|cX<|cX<|cT gH<|U 28 O<|kM q fun x1 h2 x3 h4 q=>gE 6 mixed<|dP [2] O (ak O g)<|dP [7] O (oC (AS h2) O)<|dP [3] O (ak O g)<|dP [9] O (oC (AS h4) O)<|dS [2,8] O (ds O O O g)<|dS [3,10] O (ds O O O g)<|dN<|dE [2,3,4] O aH<|cD<|ae<|ai<|jT [4] O (σ:=(Int×att Int)×(Int×att Int)) (fun s5=>[(2,.own 93 (a7 s5.1)),(3,.own 93 (a7 s5.2))]) q O (fun k6 s5 q=>by exact ae<|bn q fun x7 h8 q=>rS<|cU O g<|cC (oi h8) O<|cP (dH (aT O) aI)<|U 8220 O<|gc O q (fun Up q=>ah<|ax<|ai<|bn q fun iI nA q=>rS<|cU O g<|cU O g<|cC (Bs nA) O<|cZ<|cE<|cE<|cT gH<|cT gH<|cs O O O g<|cs O O O g<|U 92 O<|gD 4 mixed<|dP [3] O (ak O g)<|dP [6] O (ak O g)<|dS [2,20] O (ds O O O g)<|dS [3,21] O (ds O O O g)<|dN<|dE [2,3,4] O aH<|cD (cm q O)) fun Up q=>aR<|ax<|rS<|cU O g<|cs O O O g<|cF [4] O<|an (qV q O g))
def Kw{a0 r}(q:td a0=some r):c8 122 [a7 a0] [TiZ r.1,bj r.2]:=by
 unfold td at q;exact dR func122 O aH<|rS<|cX<|cI<|cB<|U 2 O<|gE 7 mixed<|dQ 0 O gQ O B<|dQ 1 O po O zA<|dP [7] O (uJ dK (aT O))<|dP [5] O (oA O)<|dP [8] O (oA O)<|dN<|dE [2,3] O aH<|cD<|by cases q;exact an (r2 O)
def BY{a0 a1 r}(q:uN a0 a1=some r):c8 124 [bj a0,TiZ a1] [TiZ r]:=
 dR func124 O aH<|rS<|cI<|U 3 O<|ae<|rS<|cM<|U 34 O<|gc O q (fun hb1 q=>rS<|cM<|cA<|cF [4] O<|an (fz q O)) fun hb1 q=>ah<|ax<|rS<|cI<|cF [4] O<|an (fz q O)
def jy{a0 a1 r}(q:bu a0 a1=some r):c8 254 [TS a0,TS a1] [bj r]:=
 dR func254 O aH<|rS<|cB<|U 3 O<|kT q fun x1 h2 q=>rS<|cM<|cP (fk X (aT O))<|cM<|cP (fk X (aT O))<|cP (nD (aT O) (aT O))<|cM<|gV O O (ov 0 O on) (fun vK=>oM O)<|gV O O (ov 1 O on) (fun hg2=>oM O)<|gV O O (oo 12 O id on) (fun Y=>fk X (aT O))<|gV O O (oo 11 O id (oo 13 O id on)) (fun zC=>fQ X (aT O) Lo.none (Lo.some (aT O)) (h2 zC))<|gV O O (ov 1 O on) (fun CD=>oM O)<|gV O O (oo 14 O id (oo 15 O id on)) (fun Dj=>A3 (aT O) (aT O))<|cP (dD (aT O) O jZ)<|cA<|cF [4] O<|an (fz q O)
def ux{a0 a1 r}(q:ig a0 a1=some r):c8 245 [TS a0,TS a1] [TS r.1,bj r.2]:=
 dR func245 O aH<|rS<|cP (aC (Arg.s O))<|cB<|U 3 O<|ae<|bn q fun x1 h2 q=>rS<|cM<|cM<|cC (jy h2) O<|cP (fT (aT O))<|U 515 O<|gc O q (fun hb3 q=>rS<|cM<|cA<|cB<|U 48 O<|by cases q;exact an (r2 O)) fun hb3 q=>ah (ax (bn q fun x4 h5 q=>rS<|cM<|cM<|cP (fk X (aT O))<|cP (fQ X (aT O) (Lo.some (aT O)) Lo.none h5)<|cA<|cB<|U 48 O<|by cases q;exact an (r2 O)))
def Fp{a0 a1 r}(q:gS a0 a1=some r):c8 186 [TS a0,TS a1] [TS r.1,bj r.2]:=
 dR func186 O aH<|rS<|cP (aC (Arg.s O))<|cB<|U 3 O<|bn q fun x1 h2 q=>rS<|cM<|cM<|cC (ux h2) O<|cE<|cE<|cA<|cA<|U 48 O<|by cases q;exact an (r2 O)
def L9{a0 r}(q:uO a0=some r):c8 246 [TS a0] [bj r]:=
 dR func246 O aH<|rS<|cB<|U 1 O<|ae<|rS<|cM<|cP (fk X (aT O))<|cN<|U 97 O<|ai<|jT [0,5] O (σ:=Int) (fun s1=>[(6,.val (TiZ s1))]) q O (fun k2 s1 q=>by exact rS<|cL O O<|U 225 O<|ae<|gc O q (fun hb3 q=>ah<|ax<|ae<|ai<|rS<|cM<|cA<|U 105 O<|bn q fun x4 h5 q=>kT q fun x6 h7 q=>rS<|cM<|cM<|cP (re X (aT O) (aT O) h5)<|cP (dJ (aT O) aI)<|cM<|gV O O (ov 0 O on) (fun vK=>oM O)<|gV O O (ov 3 O on) (fun hg2=>oM O)<|gV O O (oo 14 O id (oo 15 O id on)) (fun Y=>re X (aT O) (aT O) (h7 Y))<|gV O O (oo 16 O id on) (fun zC=>b9 (aT O) aI)<|cP (gj (aT O) O j8)<|U 262241 O<|gc O q (fun vE q=>rS<|cB<|U 4 O<|an (fz q O)) fun vE q=>ah (ax (bn q fun x9 lA q=>by exact rK<|cH O lA<|cO (oM O)<|U 97 O (cm q O)))) fun hb3 q=>aR<|ax<|rS<|cM<|cP (abO (aT O) (Arg.s O))<|cA<|U 4 O<|an (fz q O))
def Fy{a0 r}(q:nF a0=some r):c8 187 [TS a0] [bj r]:=
 dR func187 O aH<|rS<|cB<|U 1 O<|bn q fun x1 h2 q=>kT q fun x3 h4 q=>rS<|cM<|cC (L9 h2) O<|cM<|gV O O (ov 0 O on) (fun vK=>oM O)<|gV O O (oo 6 O id on) (fun hg2=>A3 (aT O) (Arg.s O))<|gV O O (oo 7 O id on) (fun Y=>oM O)<|gO O O (ov 0 O on) (fun zC=>oM O)<|gO O O (oo 9 O id on) (fun CD=>re X (aT O) aI (h4 CD))<|gO O O (oo 10 O id on) (fun Dj=>dH (aT O) aI)<|gV O O (oo 8 O id (ov 11 O on)) (fun Nz=>gj (aT O) O (fun h=>FY (id Nz) (j8 h)))<|cP (dD (aT O) O jZ)<|cA<|U 4 O<|an (fz q O)
def Fo{a0 a1 r}(q:rP a0 a1=some r):c8 206 [TS a0,TS a1] [bj r]:=
 dR func206 O aH<|rS<|cB<|U 3 O<|bn q fun x1 h2 q=>rS<|cM<|cM<|cC (jy h2) O<|cA<|cF [4] O<|an (fz q O)
def ug{a0 a1 r}(q:fB a0 a1=some r):c8 255 [TS a0,TS a1] [TS r]:=
 dR func255 O aH<|rS<|cP (aC (Arg.s O))<|U 3 O<|ae<|bn q fun x1 h2 q=>rS<|cM<|cM<|cC (jy h2) O<|U 131 O<|gc O q (fun hb3 q=>bn q fun x4 h5 q=>rS<|cM<|cM<|cP (fk X (aT O))<|cP (fQ X (aT O) (Lo.some (aT O)) Lo.none h5)<|cA<|cF [4] O<|an (fz q O)) fun hb3 q=>ah<|ax<|rS<|cM<|cA<|cF [4] O<|an (fz q O)
def w8{a0 a1 r}(q:ir a0 a1=some r):c8 207 [TS a0,TS a1] [TS r]:=
 dR func207 O aH<|rS<|cP (aC (Arg.s O))<|U 3 O<|bn q fun x1 h2 q=>rS<|cM<|cM<|cC (ug h2) O<|cA<|cF [4] O<|an (fz q O)
def Mi{a0 a1 r}(q:uV a0 a1=some r):c8 214 [(TL (TI .u64)) a0,(TL (TI .u64)) a1] [(TL (TI .u64)) r]:=by
 refine dR func214 O aH<| ?_
 refine rS<|cP (aC (Arg.nn (f:=(TI .u64))))<|U 3 O ?_
 obtain⟨x1,h2,x3,h4,q⟩:=b2 q;refine rS<|cM<|cJ dK O<|cM<|cJ dK O<|cP (bH (aT O) (aT O) h2)<|cP (Hu (TI .u64) ZQ yf O (aT O) (aT O) h4)<|cS (bX O O (gk O) _ (Or.inl O))<|U 35 O ?_
 refine ae<|rS<|cM<|cJ dK O<|cN<|U 7340066 O ?_
 refine ai<|jT [1,20,21] O (σ:=att Int×Int) (fun s5=>[(5,.buf 255 1 (lT (TI .u64) s5.1)),(22,.val (TiZ s5.2))]) q O (fun k6 s5 q=>?_)
 refine rS<|cL O O<|U 15728674 O ?_
 refine ae<|gc O q (fun Bc q=>?_) fun Bc q=>?_
 ·refine ah<|ax<|ae<|ai ?_
  obtain⟨x8,h9,q⟩:=aN q;refine rS<|cM<|cP (oX fG (dY O) O O h9)<|cR O dx<|cA<|cA<|U 7340258 O ?_
  refine rS<|cI<|U 7340514 O ?_
  refine ae<|rS<|cM<|cJ dK O<|cN<|U 946864610 O ?_
  refine ai<|jT [1,6,7,20,21,22,27,28] O (σ:=att Int×Int×Int) (fun um=>[(5,.buf 255 1 (lT (TI .u64) um.1)),(8,.val (TI .u64 um.2.1)),(29,.val (TiZ um.2.2))]) q O (fun Si um q=>?_)
  refine rS<|cL O O<|U 2020606434 O ?_
  refine ae<|gc O q (fun JA q=>?_) fun JA q=>?_
  ·refine ah<|ax<|ae<|ai ?_
   obtain⟨j9,P,q⟩:=aN q;refine rS<|cM<|cP (oX fG (dY O) O O P)<|cR O dx<|cA<|cA<|U 946866146 O ?_
   obtain⟨jH,S,q⟩:=aN q;refine rS<|cM<|cM<|cC (KZ S) O<|cZ<|cE<|cE<|cA<|cA<|U 946871266 O ?_
   refine rS<|cI<|U 946871266 O ?_
   obtain⟨jN,V,kq,xt,og,Be,oe,zO,q⟩:=b4 q;refine rS<|cM<|cQ<|cM<|cM<|cP (bH (aT O) (aT O) V)<|cP (di fG O O (aT O) xt)<|cP (lY (f:=(TI .u64)) (fun _=>O) O O (bz Be) dx)<|cP (AZ (B7 zO) (aU.cons (aT O) (aU.cons (aT O) (aU.cons aI aU.nil))))<|cZ<|cE<|cE<|cO (oA O)<|cA<|U 946879458 O ?_
   refine rS<|cM<|cM<|cP (vV (aT O) (aT O))<|cO (oA O)<|U 946871266 O ?_
   obtain⟨qW,CF,q⟩:=aN q;refine rS<|cM<|cM<|cP (AZ (B7 CF) (aU.cons (aT O) (aU.cons (aT O) (aU.cons aI aU.nil))))<|cZ<|cE<|cE<|cO (oA O)<|cA<|U 946879202 O ?_
   obtain⟨rJ,Fv,CU,KR,CT,JC,q⟩:=b3 q;refine rK<|cQ<|cM<|cM<|cP (bH (aT O) (aT O) Fv)<|cM<|cM<|cM<|cP (vV (aT O) (aT O))<|cP (di fG O O (aT O) KR)<|cS (rM (f:=(TI .u64)) (fun _=>O) O O (bz JC) (aT O) dx)<|cA<|U 946864610 O (ax ?_)
   obtain⟨EA,NG,q⟩:=aN q;exact rK<|cH O NG<|cO (oM O)<|U 946864610 O (cm q O)
  ·refine aR (ax ?_);obtain⟨C8,O0,Bi,KQ,BX,KP,q⟩:=b3 q;refine rK<|cQ<|cM<|cM<|cJ dK O<|cP (bH (aT O) (aT O) O0)<|cM<|cP (di fG O O (aT O) KQ)<|cS (rM (f:=(TI .u64)) (fun _=>O) O O (bz KP) (aT O) dx)<|U 7340066 O (ax ?_)
   obtain⟨IQ,Ut,q⟩:=aN q;exact rK<|cH O Ut<|cO (oM O)<|U 7340066 O (cm q O)
 ·refine aR (ax ?_);obtain⟨FZ,RT,q⟩:=aN q;refine rS<|cQ<|cG (jW (t:=5) O)<|cG (kS (s:=78) O O)<|cC (qq RT) O<|cA<|cF [4] O ?_
  cases q;exact an (r1 O)
def wF{a0 a1 r}(q:nN a0 a1=some r):c8 142 [a7 a0,a7 a1] [a7 r]:=
 dR func142 O aH<|rS<|cX<|cX<|cT gH<|U 28 O<|ae<|rS<|o0 1 O po O zA<|cP (uJ dK (aT O))<|cM<|gV O O (ov 3 O on) (fun vK=>bM O po)<|gV O O (oo 15 O id (ov 3 O on)) (fun hg2=>oP 1 O O zA)<|gV O O (oo 16 O id on) (fun Y=>uJ dK (aT O))<|cP (dD (aT O) O jZ)<|U 262172 O<|xu [2,3] O (α:=(Int×att Int)) (fun s1=>[(4,.own 93 (a7 s1))]) q (fun k2 q=>by exact gc O q (fun hb3 q=>wZ q fun x4 h5 x6 h7 x8 h9 q=>gE 12 mixed<|dQ 0 O gQ O B<|dP [21] O (oC (F4 h5) O)<|dQ 0 O gQ O B<|dP [24] O (oC (F4 h7) O)<|dP [22,25] O (oC (KZ h9) O)<|dP [26] O (uI O)<|dP [19] O (fO O O)<|dP [19] O (fO O O)<|dP [27] O (oA O)<|dP [28] O (oA O)<|dN<|dE [2,3,4,5,6] O aH<|cD<|rS<|cM<|cP (cw (aT O) aI)<|cM<|gV O O (ov 6 O on) (fun zC=>oM O)<|gV O O (oo 32 O id on) (fun CD=>Ge (aT O) aI)<|cP (dD (aT O) O jZ)<|cF [2,3,4,6,34] O<|gc O q (fun zD q=>ae<|rS<|o0 0 O gQ O B<|cP (dJ (aT O) aI)<|o0 0 O gQ O B<|cP (dJ (aT O) aI)<|cP (Q6 E6 (aT O) (aT O))<|cF [4,6,41] O<|gc O q (fun JB q=>bn q fun iY Q q=>rS<|cM<|cP (xk E8 Kd (aT O))<|cP (Q5 (aT O) Q)<|cP (bB gH vR O)<|cs O O O g<|cF [4] O<|an (qV q O g)) fun JB q=>ah<|ax<|rS<|cM<|cP (xk E8 Kd (aT O))<|cP (bB gH vR O)<|cs O O O g<|cF [4] O<|an (qV q O g)) fun zD q=>ah (cm q O)) fun hb3 q=>ah (cm q O)) (fun s1 q=>by exact ax<|bn q fun jR T q=>rS<|cU O g<|cC (jf T) O<|cZ<|cE<|cE<|cA<|cA<|U 408 O<|bn q fun jG W q=>rS<|cU O g<|cC (jf W) O<|cZ<|cE<|cE<|cA<|cA<|U 1936 O<|kM q fun kZ uo mC h21 q=>rS<|cM<|cM<|cP (Q6 E6 (aT O) (aT O))<|cM<|cM<|cC (Mi uo) O<|cC (tw h21) O<|cs O O O g<|cF [4] O<|an (qV q O g))
def OE{a0 a1 r}(q:sL a0 a1=some r):c8 209 [a7 a0,TiZ a1] [a7 r]:=
 dR func209 O aH<|rS<|cX<|cT gH<|U 22 O<|bn q fun x1 h2 q=>rS<|cC (Dt h2) O<|cT gH<|cs O O O g<|U 54 O<|ae<|ai<|jT [4] O (σ:=Int×(Int×att Int)×(Int×att Int)) (fun s3=>[(1,.val (TiZ s3.1)),(2,.own 93 (a7 s3.2.1)),(5,.own 93 (a7 s3.2.2))]) q O (fun k4 s3 q=>by exact ae<|rS<|cM<|cP (b9 (aT O) aI)<|U 310 O<|gc O q (fun Jw q=>ah<|ax<|ae<|xu [1,4] O (α:=(Int×att Int)×(Int×att Int)) (fun s6=>[(2,.own 93 (a7 s6.1)),(5,.own 93 (a7 s6.2))]) q (fun k7 q=>by exact ai<|ae<|rS<|cM<|cP (Rc (aT O) aI)<|cP (cw (aT O) aI)<|U 8246 O<|xu [1,2,4] O (α:=(Int×att Int)) (fun s8=>[(5,.own 93 (a7 s8))]) q (fun k9 q=>by exact gc O q (fun zD q=>bn q fun gT M q=>by exact rK<|cU O g<|cU O g<|cC (wF M) O<|cs O O O g<|U 54 O (cm q O)) fun zD q=>ah (cm q O)) (fun s8 q=>by exact ax<|rS<|cM<|cP (b9 (aT O) aI)<|U 262198 O<|gc O q (fun Gp q=>bn q fun jR T q=>by exact rK<|cU O g<|cU O g<|cC (wF T) O<|cs O O O g<|U 54 O (cm q O)) fun Gp q=>ah (cm q O))) (fun s6 q=>by exact ax<|bn q fun jG W q=>by exact rK<|cM<|cP (Gd (aT O) aI W)<|cO (oA O)<|U 54 O (cm q O))) fun Jw q=>aR<|ax<|rS<|cU O g<|cs O O O g<|cF [4] O<|an (qV q O g))
def Vr{a0 r}(q:Co a0=some r):c8 141 [TS a0] [a7 r]:=
 dR func141 O aH<|rS<|cT gH<|U 5 O<|bn q fun x1 h2 q=>rS<|cM<|cP (gZ (Fo h2) (aU.cons (aT O) (aU.cons (Arg.s O) aU.nil)))<|cA<|U 13 O<|bn q fun x3 h4 q=>rS<|cM<|cP (gZ (w8 h4) (aU.cons (aT O) (aU.cons (Arg.s O) aU.nil)))<|cO (oA O)<|U 13 O<|rS<|cP (bB gH vR O)<|cT gH<|cs O O O g<|U 29 O<|ae<|ai<|jT [2,3] O (σ:=ad3×(Int×att Int)) (fun s5=>[(0,.val (TS s5.1)),(4,.own 93 (a7 s5.2))]) q O (fun k6 s5 q=>by exact ae<|rS<|cM<|cP (fk X (aT O))<|cP (b9 (aT O) aI)<|U 32797 O<|gc O q (fun Bc q=>ah<|ax<|ai<|rS<|cM<|cP (fk X (aT O))<|cP (XD aI (aT O))<|cA<|U 61 O<|kM q fun x8 h9 iI nA q=>rS<|cM<|cM<|cP (fQ X (aT O) Lo.none (Lo.some (aT O)) h9)<|cC (aiA nA) O<|cZ<|cE<|cE<|cA<|cA<|U 125 O<|UX q fun iY Q jR T jG W kZ uo mC h21 q=>gE 9 mixed<|dP [4] O (ak O g)<|dP [] O (oC (Dt Q) O)<|dP [5] O (oM O)<|dP [27,28] O (oC (OE T) O)<|dP [26,29] O (oC (wF W) O)<|dP [6] O (oM O)<|dP [31] O (oC (Dt uo) O)<|dP [30,32] O (oC (wG h21) O)<|dS [4,33] O (ds O O O g)<|dN<|dE [0,2,3,4,5] O aH<|cD<|bn q fun uk Db q=>by exact rK<|cM<|cM<|cP (fQ X (aT O) (Lo.some (aT O)) Lo.none Db)<|cO (oA O)<|U 29 O (cm q O)) fun Bc q=>aR<|ax<|ae<|rS<|cM<|cF [2,4,37] O<|gc O q (fun acN q=>bn q fun qW CF q=>rS<|cU O g<|cC (lF CF) O<|cs O O O g<|U 4 O<|an (qV q O g)) fun acN q=>ah<|ax<|rS<|cU O g<|cs O O O g<|U 4 O<|an (qV q O g))
def QF{H:HV}{z:Int}{v:arH}(h:(nY z).ok H v):∃r,rI r z/\(a7 r).ok H v:=h
def aat{f:FuncId}{x y:Int}{dU:att Ty}(hc:fR prog f=true)(h:∀r s,rI r x->rI s y->∃xY,fN prog f [a7 r,a7 s] (.vs xY)/\∀H v,xi H xY v->xi H dU v):fN prog f [nY x,nY y] (.vs dU):=
 DB hc fun H vs ij=>by
  obtain⟨u,v,rfl,hu,hv⟩:=Cd ij;obtain⟨r,hr,hru⟩:=QF hu;obtain⟨s,hs,hsv⟩:=QF hv;obtain⟨xY,h1,h2⟩:=h r s hr hs;exact⟨[a7 r,a7 s],xY,⟨u,[v],rfl,hru,v,[],rfl,hsv,rfl⟩,h1,h2⟩
def QG{H:HV}{z:Int}{v:arH}{r:Int×att Int}(h:rI r z)(k:(a7 r).ok H v):(nY z).ok H v:=⟨r,h,k⟩
def Tv{z:Int}{q:Int×att Int}(h:rI q z):∀(H:HV) (v:arH),xi H [a7 q] v->xi H [nY z] v:=fun H v k=>QG h k
def afc{x y:Int}{r:Int}(hm:Oc x y=some r):c8 120 [nY x,nY y] [nY r]:=by
 obtain⟨hb,rfl⟩:=jh hm;obtain⟨h1,h2⟩:=eT hb;exact aat aH fun r s hr hs=>by obtain⟨q,e,hq⟩:=XJ hr hs h1 h2;exact⟨_,Pj e,Tv hq⟩
def Td{x:ad3}{r:Int}(hm:vB x=some r):c8 141 [TS x] [nY r]:=by
 obtain⟨q,e,hq⟩:=abU hm;have:=Vr e;exact DB aH fun H vs ij=>⟨_,_,ij,this,Tv hq⟩
def aau{f:FuncId}{x:Int}{dU:att Ty}(hc:fR prog f=true)(h:∀r,rI r x->∃xY,fN prog f [a7 r] (.vs xY)/\∀H v,xi H xY v->xi H dU v):fN prog f [nY x] (.vs dU):=
 DB hc fun H vs ij=>by
  obtain⟨u,rfl,hu⟩:=uK ij;obtain⟨r,hr,hru⟩:=QF hu;obtain⟨xY,h1,h2⟩:=h r hr;exact⟨[a7 r],xY,⟨u,[],rfl,hru,rfl⟩,h1,h2⟩
def VI{x:Int}{r:Int×Bool}(hm:Bf x=some r):c8 122 [nY x] [TI .i64 r.1,bj r.2]:=by
 obtain⟨hb,rfl⟩:=jh hm;rw[jl,me] at hb;exact aau aH fun r hr=>⟨_,Kw (ZL hr hb),fun _ _ h=>h⟩
def Fz{a0 r}(q:nG a0=some r):c8 126 [TS a0] [TiZ r]:=
 dR func126 O aH<|rS<|cI<|U 1 O<|bn q fun x1 h2 q=>rS<|cM<|cP (gZ (ahm h2) (aU.cons (aT O) (aU.cons (Arg.s O) aU.nil)))<|cZ<|cE<|cE<|cE<|cA<|cA<|cA<|U 56 O<|bn q fun x3 h4 q=>rS<|cM<|cP (gZ (Fp h4) (aU.cons (aT O) (aU.cons (Arg.s O) aU.nil)))<|cZ<|cE<|cE<|cA<|cA<|U 240 O<|ae<|bn q fun x5 h6 q=>kT q fun x7 h8 q=>rS<|cM<|cC (Fy h6) O<|cP (fT (aT O))<|cM<|gV O O (ov 7 O on) (fun vK=>oM O)<|gV O O (oo 25 O id on) (fun hg2=>oM O)<|gO O O (ov 6 O on) (fun Y=>oM O)<|gO O O (oo 27 O id on) (fun zC=>A3 (aT O) (Arg.s O))<|gV O O (oo 26 O id (ov 28 O on)) (fun CD=>dD (aT O) O (fun h=>FY (id CD) (jZ h)))<|cP (gj (aT O) O j8)<|cM<|gV O O (ov 5 O on) (fun Dj=>oM O)<|gV O O (oo 32 O id on) (fun Nz=>oM O)<|gO O O (ov 4 O on) (fun Un=>oM O)<|gO O O (oo 34 O id on) (fun Yg=>oC (Fy (h8 Yg)) O)<|gO O O (oo 35 O id on) (fun NC=>fT (aT O))<|gO O O (oo 36 O id on) (fun NB=>oM O)<|gO O O (ov 4 O on) (fun Ju=>oM O)<|gO O O (oo 38 O id on) (fun OY=>A3 (aT O) (Arg.s O))<|gO O O (oo 37 O id (ov 39 O on)) (fun OX=>gj (aT O) O (fun h=>FY (id OX) (j8 h)))<|gO O O (oo 40 O id on) (fun NA=>oM O)<|gO O O (ov 4 O on) (fun OW=>oM O)<|gO O O (oo 42 O id on) (fun Uo=>A3 (aT O) (Arg.s O))<|gO O O (oo 41 O id (ov 43 O on)) (fun Wn=>gj (aT O) O (fun h=>FY (id Wn) (j8 h)))<|gV O O (oo 33 O id (ov 44 O on)) (fun acF=>dD (aT O) O (fun h=>FY (id acF) (jZ h)))<|cP (gj (aT O) O j8)<|cF [4,5,6,46] O<|gc O q (fun Up q=>rS<|cI<|U 4 O<|an (fz q O)) fun Up q=>ah<|ax<|ae<|rS<|cM<|cP (fk X (aT O))<|cP (b9 (aT O) aI)<|cM<|gV O O (ov 4 O on) (fun aju=>oM O)<|gV O O (oo 51 O id on) (fun agq=>fk X (aT O))<|gV O O (oo 52 O id on) (fun agp=>b9 (aT O) aI)<|cP (gj (aT O) O j8)<|cF [4,5,6,54] O<|gc O q (fun zD q=>rS<|cI<|U 4 O<|an (fz q O)) fun zD q=>ah<|ax<|ae<|rS<|cM<|cF [4,6,55] O<|Eg (α:=Unit) (fun Pw=>[]) q (fun PU q=>by exact gc O q (fun Gp q=>Ql q fun jR T jG W kZ uo mC h21 q=>rS<|cM<|cC (Td T) O<|cM<|cC (Td W) O<|cC (afc uo) O<|cC (VI h21) O<|cZ<|cE<|cE<|cA<|cA<|U 768 O<|rS<|cM<|cP (fT (aT O))<|cM<|gV O O (ov 8 O on) (fun ago=>oM O)<|gV O O (oo 68 O id on) (fun ajt=>dH (aT O) aI)<|cP (gj (aT O) O j8)<|cF [70] O<|gc O q (fun RQ q=>rS<|cI<|U 4 O<|an (fz q O)) fun RQ q=>ah (cm q O)) fun Gp q=>ah (cm q O)) (fun Pw q=>by exact ax<|rS<|cI<|U 4 O<|an (fz q O))
def Ou{a0 r}(q:wM a0=some r):c8 123 [(TL TiZ) a0] [TiZ r]:=
 dR func123 O aH<|rS<|cI<|U 1 O<|ae<|rS<|cM<|cJ XZ O<|cN<|U 224 O<|ai<|jT [5,6] O (σ:=Int) (fun s1=>[(7,.val (TiZ s1))]) q O (fun k2 s1 q=>by exact rS<|cL O O<|U 480 O<|ae<|gc O q (fun hb3 q=>ah<|ax<|ae<|ai<|bn q fun x4 h5 q=>rS<|cP (oX abi (dY O) O O h5)<|cR O ahy<|cA<|U 240 O<|rS<|cM<|cP (dH (aT O) aI)<|U 4336 O<|gc O q (fun KN q=>rS<|cM<|cA<|U 4 O<|an (fz q O)) fun KN q=>ah (ax (bn q fun x7 h8 q=>by exact rK<|cH O h8<|cO (oM O)<|U 224 O (cm q O)))) fun hb3 q=>aR<|ax<|rS<|cI<|U 4 O<|an (fz q O))
def alp{x:Int}{r:Int}(hm:akq x=some r):c8 121 [nY x] [nY r]:=by
 have hm:=eQ hm;subst hm;exact aau aH fun r hr=>by obtain⟨q,e,hq⟩:=Rn hr;exact⟨_,AS e,Tv hq⟩
def sOf{x r:Int}(hm:aOf x=some r):c8 119 [TI .i64 x] [nY r]:=by
 have h1:Bh x/\x=r:=by
  unfold aOf aL at hm;cases hb:yA x
  ·rw[hb] at hm;cases hm
  ·rw[hb] at hm;refine⟨?_,eQ hm⟩;unfold yA at hb;obtain⟨a,b⟩:=eT hb;exact⟨aZ a,aZ b⟩
 obtain⟨h1,rfl⟩:=h1;have:=Dt (a0:=x) (r:=(x,[])) rfl;exact DB aH fun H vs ij=>⟨_,_,ij,this,Tv (.inl ⟨rfl,rfl,h1⟩)⟩
def ahn{x:Int}{r:Int}(hm:adZ x=some r):c8 125 [nY x] [TI .i64 r]:=by
 have hm:=eQ hm;subst hm;exact aau aH fun r hr=>⟨_,oi (BE hr),fun _ _ h=>h⟩
def uu{a0 r}(q:fe a0=some r):c8 55 [aq a0] [TiZ r]:=
 dR func55 O aH<|rS<|cX<|cI<|U 2 O<|bn q fun x1 h2 q=>rS<|cC (sOf h2) O<|cT gH<|cs O O O g<|U 10 O<|rS<|cB<|U 26 O<|ae<|rS<|o0 0 O iN O vJ<|cN<|U 6170 O<|ai<|jT [1,11] O (σ:=Int×Bool×Int) (fun s3=>[(3,.own 93 (nY s3.1)),(4,.val (bj s3.2.1)),(12,.val (TiZ s3.2.2))]) q O (fun k4 s3 q=>by exact rS<|cP (dJ (aT O) aI)<|U 14362 O<|ae<|gc O q (fun Jw q=>ah<|ax<|ae<|ai<|bn q fun x6 h7 q=>rS<|cP (Hw (f:=TiZ) (l:=([a0.1.1,a0.1.2.1,a0.1.2.2]:att Int)) ajY B (fun _=>O) O (aT O) (aT O) h7)<|cA<|U 6234 O<|wZ q fun x8 h9 iI nA iY Q q=>gE 6 mixed<|dP [3] O (ak O g)<|dP [6] O (oM O)<|dP [16] O (oC (sOf h9) O)<|dP [17] O (oC (alp nA) O)<|dP [15,18] O (oC (afc Q) O)<|dS [3,19] O (ds O O O g)<|dN<|dE [1,3,4,6,11,12] O aH<|cD<|by exact rK<|cM<|cM<|gV O O (ov 6 O on) (fun vK=>oM O)<|gV O O (oo 22 O id on) (fun hg2=>b9 (aT O) aI)<|cP (gj (aT O) O j8)<|cM<|gV O O (ov 6 O on) (fun Y=>oM O)<|gV O O (oo 26 O id on) (fun zC=>dJ (aT O) aI)<|cP (gj (aT O) O j8)<|cO (oA O)<|U 6170 O (ax (bn q fun jR T q=>by exact rK<|cH O T<|cO (oM O)<|U 6170 O (cm q O)))) fun Jw q=>aR (ax (bn q fun jG W q=>rS<|cU O g<|cC (VI W) O<|cZ<|cE<|cE<|cA<|cA<|U 410 O<|Qk q fun kZ uo mC h21 uk Db wy JE Bj JD yE Gq q=>gE 19 mixed<|dP [3] O (ak O g)<|dP [35] O (oC (ahn uo) O)<|dP [36] O (cw (aT O) aI)<|dP [37] O (oC (BY h21) O)<|dP [4] O (oM O)<|dP [39] O (oC (BY Db) O)<|dP [8] O (oM O)<|dP [41] O (fT (aT O))<|dP [42] O (oM O)<|dV [7,43] O O O (ov 7 O on) (fun CD=>oM O)<|dV [43,44] O O O (oo 44 O id on) (fun Dj=>dH (aT O) aI)<|dP [43,45] O (gj (aT O) O j8)<|dP [46] O (oC (BY JE) O)<|dQ 1 O od O gp<|dP [49] O (oC (Fz JD) O)<|dP [38,40,47,50] O (bS L4 N1 O O)<|dP [51] O (oC (Ou Gq) O)<|dP [52] O (oA O)<|dN<|dE [2] O aH<|cD<|an (fz q O))))
def xU{a0 r}(q:jF a0=some r):c8 31 [(TL aq) a0] [TiZ r]:=
 dR func31 O aH<|rS<|cI<|U 1 O<|ae<|rS<|cM<|cJ mi O<|cN<|U 448 O<|ai<|jT [6,7] O (σ:=Int) (fun s1=>[(8,.val (TiZ s1))]) q O (fun k2 s1 q=>by exact rS<|cL O O<|U 960 O<|ae<|gc O q (fun hb3 q=>ah<|ax<|ae<|ai<|bn q fun x4 h5 q=>rS<|cP (oX p8 (dY O) O O h5)<|cR O ji<|cT qo<|cs O O O ji<|U 464 O<|bn q fun x6 h7 q=>rS<|cU O ji<|cC (uu h7) O<|cA<|U 480 O<|rS<|cM<|cP (dH (aT O) aI)<|U 33248 O<|gc O q (fun vE q=>rS<|cM<|cA<|U 4 O<|an (fz q O)) fun vE q=>ah (ax (bn q fun x9 lA q=>by exact rK<|cH O lA<|cO (oM O)<|U 448 O (cm q O)))) fun hb3 q=>aR<|ax<|rS<|cI<|U 4 O<|an (fz q O))
def CW{a0 r}(q:pD a0=some r):c8 204 [TiZ a0] [bj r]:=by
 unfold pD at q;exact dR func204 O aH<|rS<|cB<|U 1 O<|rS<|cM<|cM<|cP (dH (aT O) (aT O))<|cA<|U 4 O<|an (fz q O)
def uy{a0 a1 r}(q:kL a0 a1=some r):c8 138 [TiZ a0,TiZ a1] [TiZ r]:=
 dR func138 O aH<|rS<|cI<|U 3 O<|bn q fun x1 h2 q=>rS<|cM<|cC (CW h2) O<|cA<|U 35 O<|bn q fun x3 h4 q=>rS<|cM<|cC (CW h4) O<|cA<|U 99 O<|ae<|rS<|cM<|U 2115 O<|gc O q (fun Jw q=>ae<|rS<|cM<|cF [12] O<|gc O q (fun KN q=>rS<|cI<|cF [4] O<|an (fz q O)) fun KN q=>ah<|ax<|rS<|cI<|cF [4] O<|an (fz q O)) fun Jw q=>ah<|ax<|ae<|rS<|cM<|U 8195 O<|gc O q (fun Bc q=>rS<|cI<|cF [4] O<|an (fz q O)) fun Bc q=>ah<|ax<|ae<|rS<|cM<|cM<|cL O O<|U 65539 O<|gc O q (fun vE q=>rS<|cI<|cF [4] O<|an (fz q O)) fun vE q=>ah<|ax<|ae<|rS<|cM<|cM<|cP (b9 (aT O) (aT O))<|cF [19] O<|gc O q (fun Up q=>rS<|cI<|cF [4] O<|an (fz q O)) fun Up q=>ah<|ax<|rS<|cI<|cF [4] O<|an (fz q O)
def B1{a0 r}(q:rB a0=some r):c8 68 [(TL TiZ) a0] [TiZ r]:=
 dR func68 O aH<|rS<|cI<|U 1 O<|rS<|cI<|U 9 O<|ae<|rS<|cM<|cJ dC O<|cN<|U 456 O<|ai<|jT [3,6,7] O (σ:=Int) (fun s1=>[(8,.val (TiZ s1))]) q O (fun k2 s1 q=>by exact rS<|cL O O<|U 968 O<|ae<|gc O q (fun hb3 q=>ah<|ax<|ae<|ai<|bn q fun x4 h5 q=>rS<|cP (oX fD (dY O) O O h5)<|cR O B<|cA<|U 488 O<|rS<|cM<|cM<|cP (dH (aT O) (aT O))<|U 16872 O<|gc O q (fun KN q=>rS<|cM<|cA<|U 4 O<|an (fz q O)) fun KN q=>ah (ax (bn q fun x7 h8 q=>by exact rK<|cH O h8<|cO (oM O)<|U 456 O (cm q O)))) fun hb3 q=>aR<|ax<|rS<|cM<|cA<|U 4 O<|an (fz q O))
def yO{a0 a1 r}(q:oD a0 a1=some r):c8 69 [qi a0,qi a1] [TiZ r]:=
 dR func69 O aH<|rS<|cX<|cX<|cI<|U 12 O<|Ql q fun x1 h2 x3 h4 x5 h6 x7 h8 q=>gE 18 mixed<|dP [2] O (iO O pH O)<|dP [5,2] O (oP 0 O O B)<|dP [3] O (iO O pH O)<|dP [7,3] O (oP 0 O O B)<|dP [6,8] O (oC (uy h2) O)<|dP [2] O (iO O pH O)<|dP [10,2] O (oP 1 O O B)<|dP [3] O (iO O pH O)<|dP [12,3] O (oP 1 O O B)<|dP [11,13] O (oC (uy h4) O)<|dP [2] O (iO O pH O)<|dP [15,2] O (oP 2 O O B)<|dP [3] O (iO O pH O)<|dP [17,3] O (oP 2 O O B)<|dP [16,18] O (oC (uy h6) O)<|dP [9,14,19] O (bS xR vt O O)<|dP [20] O (oC (B1 h8) O)<|dP [21] O (oA O)<|dN<|dE [4] O aH<|cD<|an (fz q O)
def SF{a0 r}(q:D4 a0=some r):c8 140 [nY a0] [cd r]:=
 dR func140 O aH<|rS<|cX<|cT dm<|U 6 O<|kM q fun x1 h2 x3 h4 q=>gE 4 mixed<|dP [1] O (ak O g)<|dP [] O (oC (sOf h2) O)<|dP [3,4] O (xj (bB Qq MA O) (V4 h4))<|dS [2,5] O (ds O O O d)<|dN<|dE [2] O aH<|cD<|an (qV q O d)
def MM{x:Int}{r:Rat}(hm:JO x=some r):c8 140 [nY x] [cd r]:=by
 have hm:=eQ hm;subst hm;exact SF (Wx x)
def aeN{a0 r}(q:XO a0=some r):c8 75 [TiZ a0] [cd r]:=
 dR func75 O aH<|rS<|cT dm<|U 5 O<|kM q fun x1 h2 x3 h4 q=>rS<|cM<|cC (sOf h2) O<|cC (MM h4) O<|cs O O O d<|U 4 O<|an (qV q O d)
def Pp{x:Int}{r:Rat}(hm:qF x=some r):c8 75 [TI .i64 x] [cd r]:=by
 refine aeN ?_;unfold qF at hm;unfold XO aOf;cases h:aL x with
 |none=>rw[h] at hm;cases hm
 |some y=>rw[h] at hm;exact hm
def uq{a0 a1 a2 r}(q:pB a0 a1 a2=some r):c8 58 [TiZ a0,TiZ a1,TiZ a2] [ay r]:=
 dR func58 O aH<|rS<|cT bK<|U 71 O<|wZ q fun x1 h2 x3 h4 x5 h6 q=>rS<|cM<|cC (Pp h2) O<|cM<|cC (Pp h4) O<|cM<|cC (Pp h6) O<|cP (bA zR Z O O)<|cs O O O m<|cF [6] O<|an (qV q O m)
def vO{a0 r}(q:nP a0=some r):c8 70 [TS a0] [cd r]:=
 dR func70 O aH<|rS<|cT dm<|U 5 O<|bn q fun x1 h2 q=>rS<|cM<|cP (gZ (ahm h2) (aU.cons (aT O) (aU.cons (Arg.s O) aU.nil)))<|cZ<|cE<|cE<|cE<|cA<|cA<|cA<|U 60 O<|ae<|rS<|cM<|cP (fT (aT O))<|U 8220 O<|gc O q (fun hb3 q=>kM q fun x4 h5 x6 h7 q=>rS<|cM<|cC (Td h5) O<|cC (MM h7) O<|cs O O O d<|U 4 O<|an (qV q O d)) fun hb3 q=>ah (ax (wZ q fun x8 h9 iI nA iY Q q=>rS<|cM<|cC (Td h9) O<|cM<|cC (Td nA) O<|cP (xj (bB Qq MA O) (V4 Q))<|cs O O O d<|U 4 O<|an (qV q O d)))
def yN{a0 r}(q:ou a0=some r):c8 57 [aq a0] [bI r]:=
 dR func57 O aH<|rS<|cX<|cT iZ<|U 6 O<|kM q fun x1 h2 x3 h4 q=>gE 15 mixed<|dP [1] O (bM O iN)<|dP [3,1] O (kg O pH aI (by decide) (by decide))<|dP [4,1] O (cq O O (ba.trans (ba.agg (i:=0) O O) O (ba.agg (i:=0) O O)) B)<|dP [1] O (bM O iN)<|dP [6,1] O (kg O pH aI (by decide) (by decide))<|dP [7,1] O (cq O O (ba.trans (ba.agg (i:=0) O O) O (ba.agg (i:=1) O O)) B)<|dP [1] O (bM O iN)<|dP [9,1] O (kg O pH aI (by decide) (by decide))<|dP [10,1] O (cq O O (ba.trans (ba.agg (i:=0) O O) O (ba.agg (i:=2) O O)) B)<|dP [5,8,11] O (oC (uq h2) O)<|dQ 1 O od O gp<|dP [14] O (oC (vO h4) O)<|dP [12,15] O (bB w7 zY O)<|dS [2,16] O (ds O O O gq)<|dN<|dE [2] O aH<|cD<|an (qV q O gq)
def GL{a0 r}(q:rp a0=some r):c8 89 [(TL aq) a0] [(TL bI) r]:=
 dR func89 O aH<|rS<|cP (bL bI 111 16)<|U 1 O<|rS<|cP (bL bI 111 16)<|U 9 O<|ae<|rS<|cM<|cJ mi O<|cN<|U 456 O<|ai<|jT [6,7] O (σ:=(att (V3×Rat))×Int) (fun s1=>[(3,.buf 111 16 (lT bI s1.1)),(8,.val (TiZ s1.2))]) q O (fun k2 s1 q=>by exact rS<|cL O O<|U 968 O<|ae<|gc O q (fun hb3 q=>ah<|ax<|ae<|ai<|bn q fun x4 h5 q=>rS<|cP (oX p8 (dY O) O O h5)<|cR O ji<|cT qo<|cs O O O ji<|U 488 O<|kM q fun x6 h7 x8 h9 q=>by exact rK<|cQ<|cU O ji<|cC (yN h7) O<|cP (bS iZ JH O O)<|cS (eC rC JN (dY O) O O (aT O) h9 (gk O))<|cS (bX O O (gk O) _ (Or.inl O))<|U 456 O (ax (bn q fun iI nA q=>by exact rK<|cH O nA<|cO (oM O)<|U 456 O (cm q O)))) fun hb3 q=>aR<|ax<|rS<|cQ<|cG (jW (t:=3) O)<|cG (kS (s:=18) O O)<|cA<|U 4 O<|an (fz q O))
def Kx{a0 r}(q:KJ a0=some r):c8 78 [cd a0] [TiZ r]:=
 dR func78 O aH<|rS<|cX<|cI<|U 2 O<|bn q fun x1 h2 q=>rS<|o0 0 O pn O g<|cC (ahn h2) O<|cA<|U 4 O<|an (fz q O)
def aom{x:Int}{r:Int}(hm:anv x=some r):c8 185 [nY x] [nY r]:=by
 have hm:=eQ hm;subst hm;exact aau aH fun r hr=>by obtain⟨q,e,hq⟩:=Ab hr;exact⟨_,lF e,Tv hq⟩
def Mn{a0 r}(q:zo a0=some r):c8 193 [cd a0] [cd r]:=
 dR func193 O aH<|rS<|cX<|cT dm<|U 6 O<|kM q fun x1 h2 x3 h4 q=>gE 7 mixed<|dQ 0 O pn O g<|dP [4] O (oC (aom h2) O)<|dQ 1 O n9 O g<|dP [5,7] O (xj (bB Qq MA O) (V4 h4))<|dS [2,8] O (ds O O O d)<|dN<|dE [2] O aH<|cD<|an (qV q O d)
def Po{x:Rat}{r:Rat}(hm:Tn x=some r):c8 193 [cd x] [cd r]:=by
 have hm:=eQ hm;subst hm;exact Mn (ac6 x)
def xB{x:Rat}{r:Int}(hm:tO x=some r):c8 78 [cd x] [TI .i64 r]:=by
 have hm:=eQ hm;subst hm;exact Kx (a0:=x) rfl
def GK{a0 r}(q:uP a0=some r):c8 161 [cd a0] [cd r]:=
 dR func161 O aH<|rS<|cX<|cT dm<|U 6 O<|ae<|bn q fun x1 h2 q=>rS<|cU O d<|cC (xB h2) O<|cP (dJ (aT O) aI)<|U 38 O<|gc O q (fun hb3 q=>bn q fun x4 h5 q=>rS<|cU O d<|cC (Po h5) O<|cs O O O d<|U 4 O<|an (qV q O d)) fun hb3 q=>ah<|ax<|rS<|cU O d<|cs O O O d<|U 4 O<|an (qV q O d)
def tq{a0 a1 r}(q:jk a0 a1=some r):c8 225 [(TL cd) a0,(U8 prog (fun(x:Rat×Rat)=>[cd x.1,cd x.2]) (fun(x:Int)=>[TiZ x])) a1] [cd r]:=by
 refine dR func225 O aH<|rS<|cT dm<|U 19 O<|ae<|rS<|cM<|cJ Ip O<|cP (dJ (aT O) aI)<|U 531 O<|gc O q (fun hb1 q=>?_) fun hb1 q=>?_
 ·cases q
 ·refine ah (ax ?_);obtain⟨x2,h3,q⟩:=aN q;refine rS<|cM<|cP (iQ VB (dY O) (aT O) aI h3)<|cR O d<|cT dm<|cs O O O d<|U 51 O<|ae<|rS<|cI<|U 115 O<|ai<|jT [0,1,4] O (σ:=Rat×Int) (fun s4=>[(5,.own 95 (cd s4.1)),(6,.val (TiZ s4.2))]) q O (fun k5 s4 q=>?_)
  refine ae<|rS<|cM<|cM<|cJ Ip O<|cL O O<|U 131187 O<|gc O q (fun KN q=>?_) fun KN q=>?_
  ·refine ah<|ax<|ae<|xu [0,1,4,6] O (α:=Rat) (fun s7=>[(5,.own 95 (cd s7))]) q (fun k8 q=>?_) (fun s7 q=>?_)
   ·refine ai ?_;obtain⟨x9,lA,gT,M,q⟩:=b2 q;refine gE 8 mixed<|dP [1] O (oM O)<|dP [0] O (oM O)<|dP [6] O (oM O)<|dP [21,22] O (oX VB (dY O) O O lA)<|dP [23] O (aK (aT O) d)<|dP [5] O (ak O d)<|dP [20,24,25] O (Hx O M (aU.cons (aT O) (aU.cons (aT O) aU.nil)))<|dP [26] O (b9 (aT O) aI)<|dN<|dE [0,1,4,5,6,27] O aH<|cD<|gc O q (fun Gp q=>?_) fun Gp q=>?_
    ·obtain⟨jR,T,q⟩:=aN q;exact rK<|cM<|cM<|cP (oX VB (dY O) O O T)<|cR O d<|cs O O O d<|U 115 O (cm q O)
    ·exact ah (cm q O)
   ·refine ax ?_;obtain⟨jG,W,q⟩:=aN q;exact rK<|cM<|cH O W<|cO (oA O)<|U 115 O (cm q O)
  ·refine aR<|ax<|rS<|cU O d<|cs O O O d<|cF [4] O ?_
   cases q;exact an (q1 O d)
def OF{a0 a1 r}(q:wQ a0 a1=some r):c8 143 [a7 a0,a7 a1] [TiZ r]:=
 dR func143 O aH<|rS<|cX<|cX<|cI<|U 12 O<|ae<|rS<|o0 1 O po O zA<|cP (uJ dK (aT O))<|cM<|gV O O (ov 3 O on) (fun vK=>bM O po)<|gV O O (oo 9 O id (ov 3 O on)) (fun hg2=>oP 1 O O zA)<|gV O O (oo 10 O id on) (fun Y=>uJ dK (aT O))<|cP (dD (aT O) O jZ)<|U 4108 O<|gc O q (fun hb1 q=>ae<|ai<|rS<|o0 0 O gQ O B<|o0 0 O gQ O B<|cL O O<|cA<|U 8204 O<|gc O q (fun hb2 q=>rS<|cI<|cF [4] O<|an (fz q O)) fun hb2 q=>rS<|o0 0 O gQ O B<|o0 0 O gQ O B<|cP (b9 (aT O) (aT O))<|cA<|cF [19] O<|gc O q (fun hb3 q=>rS<|cI<|cF [4] O<|an (fz q O)) fun hb3 q=>ah<|ax<|rS<|cI<|cF [4] O<|an (fz q O)) fun hb1 q=>ah (ax (kM q fun x4 h5 x6 h7 q=>rS<|cU O g<|cU O g<|cC (FH h5) O<|cC (oi h7) O<|cA<|cF [4] O<|an (fz q O)))
def aon{x y:Int}{r:Int}(hm:ad0 x y=some r):c8 143 [nY x,nY y] [TI .i64 r]:=by
 obtain⟨hb,rfl⟩:=jh hm;obtain⟨h1,h2⟩:=eT hb;exact aat aH fun r s hr hs=>⟨_,OF (afF hr hs h1 h2),fun _ _ h=>h⟩
def Te{x y:Int}{r:Int}(hm:De x y=some r):c8 142 [nY x,nY y] [nY r]:=by
 obtain⟨hb,rfl⟩:=jh hm;obtain⟨h1,h2⟩:=eT hb;exact aat aH fun r s hr hs=>by obtain⟨q,e,hq⟩:=XI hr hs h1 h2;exact⟨_,wF e,Tv hq⟩
def Mr{a0 a1 r}(q:zu a0 a1=some r):c8 71 [cd a0,cd a1] [TiZ r]:=
 dR func71 O aH<|rS<|cX<|cX<|cI<|U 12 O<|wZ q fun x1 h2 x3 h4 x5 h6 q=>gE 12 mixed<|dQ 0 O pn O g<|dQ 1 O n9 O g<|dP [6,8] O (oC (Te h2) O)<|dQ 0 O pn O g<|dQ 1 O n9 O g<|dP [11,13] O (oC (Te h4) O)<|dP [9,14] O (oC (aon h6) O)<|dP [15] O (oA O)<|dN<|dE [4] O aH<|cD<|an (fz q O)
def Pq{x y:Rat}{r:Int}(hm:MW x y=some r):c8 71 [cd x,cd y] [TI .i64 r]:=by
 obtain⟨hb,rfl⟩:=jh hm;obtain⟨h1,h2⟩:=eT hb;exact Mr (ada h1 h2)
def Bp{a0 r}(q:oB a0=some r):kN prog 162 [] (.buf 95 4 (lT cd a0)) (.gone) [] [cd r]:=
 Gh (N:=8) func162 O ntmps162 (by simp) ake O O fun w1 v w0 H0 hk=>by exact vo (sS [0] O)<|rS<|cT dm<|U 5 O<|wZ q fun x1 h2 x3 h4 x5 h6 q=>rS<|cQ<|cC (Pp h2) O<|cP (bS dm WZ O O)<|cS (eC Ip Xc (dY O) O O (aT O) h4 (gk O))<|cG (jW (t:=6) O)<|cP (gZ (tq h6) (aU.cons (aT O) (aU.cons (Arg.fn fun _ _ h=>Pq (D:=DR.strict) h) aU.nil)))<|cs O O O d<|U 4 O<|by cases q;exact an (YB hk O (bg.cell O (nm d) O bg.nil))
end
end Trn
