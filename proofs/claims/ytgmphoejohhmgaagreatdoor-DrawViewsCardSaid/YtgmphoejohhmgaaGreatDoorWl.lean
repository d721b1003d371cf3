/-
  Part of the proof of DrawViews.
-/
import Derived.Test.YtgmphoejohhmgaaGreatDoorWk
set_option maxRecDepth 100000
set_option maxHeartbeats 20000000
set_option linter.all false
open Go Go.RowKit Go.Proofs Go.Proofs.Tryz
namespace Trn
section
variable[D:DR]
def C5{a0 a1 r}(q:pe a0 a1=some r):al prog 51 [aW a0,aW a1] (.vs [aW r]):=by
 refine c7 func51 O ntmps51 (by kernel_rfl) fun w0 H0=>rS<|cX<|cX<|cT jR<|ak 28 O ?_
 obtain⟨x1,h2,x3,h4,x5,h6,q⟩:=b3 q;refine gE 17 mixed<|dP [2] O (iO O jC O)<|dP [5,2] O (oP 0 O O X)<|dP [3] O (iO O jC O)<|dP [7,3] O (oP 0 O O X)<|dP [6,8] O (oC (si h2) O)<|dP [2] O (iO O jC O)<|dP [10,2] O (oP 1 O O X)<|dP [3] O (iO O jC O)<|dP [12,3] O (oP 1 O O X)<|dP [11,13] O (oC (si h4) O)<|dP [2] O (iO O jC O)<|dP [15,2] O (oP 2 O O X)<|dP [3] O (iO O jC O)<|dP [17,3] O (oP 2 O O X)<|dP [16,18] O (oC (si h6) O)<|dP [9,14,19] O (bA jR jC O O)<|dS [4,20] O (ds O O O B)<|dN<|dE [4] O (by kernel_rfl)<|cD ?_
 cases q;exact an (q1 O B)
def Mz{a0 r}(q:ym a0=some r):al prog 107 [aW a0] (.vs [TS r]):=by
 refine c7 func107 O ntmps107 (by kernel_rfl) fun w0 H0=>rS<|cX<|cP (aA (Arg.s O))<|ak 2 O ?_
 obtain⟨x1,h2,q⟩:=ab q;refine rS<|cU O B<|cU O B<|cC (C6 h2) O<|cA<|ak 4 O ?_
 cases q;exact an (r1 O)
def F0{a0 r}(q:lK a0=some r):al prog 189 [TS a0] (.vs [TS r]):=by
 refine c7 func189 O ntmps189 (by kernel_rfl) fun w0 H0=>rS<|cP (aA (Arg.s O))<|ak 1 O ?_
 obtain⟨x1,h2,q⟩:=ab q;refine rS<|cM<|cC (nR h2) O<|cZ<|cE<|cE<|cT j3<|cT j3<|cs O O O eF<|cs O O O eF<|ak 24 O ?_
 obtain⟨x3,h4,q⟩:=ab q;refine rS<|cU O eF<|cU O eF<|cC (pP h4) O<|cA<|ak 4 O ?_
 cases q;exact an (r1 O)
def SK{a0 a1 r}(q:vY a0 a1=some r):al prog 106 [TS a0,TS a1] (.vs [TS r]):=by
 refine c7 func106 O ntmps106 (by kernel_rfl) fun w0 H0=>rS<|cP (aA (Arg.s O))<|ak 3 O ?_
 obtain⟨x1,h2,x3,h4,q⟩:=b2 q;refine rS<|cM<|cM<|cC (F0 h2) O<|cC (kY h4) O<|cA<|cF [4] O ?_
 cases q;exact an (r1 O)
def rI{a0 a1 r}(q:jV a0 a1=some r):al prog 52 [aW a0,aW a1] (.vs [TS r]):=by
 refine c7 func52 O ntmps52 (by kernel_rfl) fun w0 H0=>rS<|cX<|cX<|cP (aA (Arg.s O))<|ak 12 O ?_
 obtain⟨x1,h2,x3,h4,x5,h6,q⟩:=b3 q;refine gE 7 mixed<|dP [2] O (ae O B)<|dP [3] O (ae O B)<|dP [5,6] O (oC (C6 h2) O)<|dP [2] O (ae O B)<|dP [8] O (oC (Mz h4) O)<|dP [7,9] O (oC (SK h6) O)<|dP [10] O (oA O)<|dN<|dE [4] O (by kernel_rfl)<|cD ?_
 cases q;exact an (r1 O)
def OW{a0 a1 r}(q:vm a0 a1=some r):al prog 13 [cz a0,aW a1] (.vs [eh r]):=by
 refine c7 func13 O ntmps13 (by kernel_rfl) fun w0 H0=>rS<|cX<|cX<|cT nY<|ak 28 O ?_
 obtain⟨x1,h2,q⟩:=ab q;refine rS<|cU O B<|jg 0 O ET O B<|cC (C5 h2) O<|cT jR<|cs O O O B<|ak 52 O ?_
 obtain⟨x3,h4,x5,h6,q⟩:=b2 q;refine gE 10 mixed<|dQ 1 O zK O B<|dP [5] O (ae O B)<|dP [11,12] O (oC (rI h4) O)<|dQ 2 O zJ O B<|dP [5] O (ae O B)<|dP [15,16] O (oC (rI h6) O)<|dP [13,17] O (bA nY ni O O)<|dS [4,18] O (ds O O O px)<|dN<|dE [4] O (by kernel_rfl)<|cD ?_
 cases q;exact an (q1 O px)
def OZ{a0 a1 r}(q:vp a0 a1=some r):al prog 108 [aW a0,aW a1] (.vs [aW r]):=by
 refine c7 func108 O ntmps108 (by kernel_rfl) fun w0 H0=>rS<|cX<|cX<|cT jR<|ak 28 O ?_
 obtain⟨x1,h2,x3,h4,x5,h6,x7,h8,x9,kG,iM,qC,q⟩:=b6 q;obtain⟨iW,nJ,kd,S,iP,T,q⟩:=b3 q;refine gE 35 mixed<|dP [2] O (iO O jC O)<|dP [5,2] O (oP 1 O O X)<|dP [3] O (iO O jC O)<|dP [7,3] O (oP 2 O O X)<|dP [6,8] O (oC (kY h2) O)<|dP [2] O (iO O jC O)<|dP [10,2] O (oP 2 O O X)<|dP [3] O (iO O jC O)<|dP [12,3] O (oP 1 O O X)<|dP [11,13] O (oC (kY h4) O)<|dP [9,14] O (oC (si h6) O)<|dP [2] O (iO O jC O)<|dP [16,2] O (oP 2 O O X)<|dP [3] O (iO O jC O)<|dP [18,3] O (oP 0 O O X)<|dP [17,19] O (oC (kY h8) O)<|dP [2] O (iO O jC O)<|dP [21,2] O (oP 0 O O X)<|dP [3] O (iO O jC O)<|dP [23,3] O (oP 2 O O X)<|dP [22,24] O (oC (kY kG) O)<|dP [20,25] O (oC (si qC) O)<|dP [2] O (iO O jC O)<|dP [27,2] O (oP 0 O O X)<|dP [3] O (iO O jC O)<|dP [29,3] O (oP 1 O O X)<|dP [28,30] O (oC (kY nJ) O)<|dP [2] O (iO O jC O)<|dP [32,2] O (oP 1 O O X)<|dP [3] O (iO O jC O)<|dP [34,3] O (oP 0 O O X)<|dP [33,35] O (oC (kY S) O)<|dP [31,36] O (oC (si T) O)<|dP [15,26,37] O (bA jR jC O O)<|dS [4,38] O (ds O O O B)<|dN<|dE [4] O (by kernel_rfl)<|cD ?_
 cases q;exact an (q1 O B)
def My{a0 r}(q:yl a0=some r):al prog 53 [cz a0] (.vs [aW r]):=by
 refine c7 func53 O ntmps53 (by kernel_rfl) fun w0 H0=>rS<|cX<|cT jR<|ak 6 O ?_
 obtain⟨x1,h2,q⟩:=ab q;refine rS<|jg 1 O zK O B<|jg 2 O zJ O B<|cC (OZ h2) O<|cs O O O B<|ak 4 O ?_
 cases q;exact an (q1 O B)
def OX{a0 a1 r}(q:vn a0 a1=some r):al prog 14 [cz a0,aW a1] (.vs [TS r]):=by
 refine c7 func14 O ntmps14 (by kernel_rfl) fun w0 H0=>rS<|cX<|cX<|cP (aA (Arg.s O))<|ak 12 O ?_
 obtain⟨x1,h2,x3,h4,x5,h6,q⟩:=b3 q;refine gE 8 mixed<|dP [2] O (ae O kv)<|dP [5] O (oC (My h2) O)<|dP [3] O (ae O B)<|dQ 0 O ET O B<|dP [7,9] O (oC (C5 h4) O)<|dP [6,10] O (oC (rI h6) O)<|dP [11] O (oA O)<|dN<|dE [4] O (by kernel_rfl)<|cD ?_
 cases q;exact an (r1 O)
def Ha[OI]{a0 a1 r}(q:kq a0 a1=some r):al prog 3 [cz a0,aW a1] (.vs [aY r]):=by
 refine c7 func3 O ntmps3 (by kernel_rfl) fun w0 H0=>rS<|cX<|cX<|cB<|ak 12 O<|ah ?_
 obtain⟨x1,h2,q⟩:=ab q;obtain⟨x3,h4,q⟩:=aH q;refine rS<|cU O kv<|cC (QL h2) O<|cM<|gV O O (ov 3 O on) (fun rW=>ae O B)<|gV O O (oo 14 O id on) (fun hg2=>Ae jR Oy O O O (iy.cons (i:=0) (aT O) O O iy.nil) O)<|gV O O (oo 15 O id on) (fun P=>oC (G9 (h4 P)) O)<|cP (fO (aT O) O jY)<|ak 131084 O<|gc O q (fun CN q=>?_) fun CN q=>?_
 ·obtain⟨x6,h7,q⟩:=ab q;refine rS<|cC (zY h7) O<|cA<|cF [4] O ?_
  cases q;exact an (r1 O)
 ·refine aj (aw ?_);obtain⟨x8,h9,q⟩:=ab q;refine rS<|cU O kv<|cU O B<|cC (Hd h9) O<|cZ<|cE<|cE<|cT nY<|cs O O O px<|cA<|ak 108 O ?_
  obtain⟨dz,jv,q⟩:=ab q;refine rS<|cU O kv<|cU O B<|cC (He jv) O<|cZ<|cE<|cE<|cA<|cA<|ak 492 O ?_
  obtain⟨fp,kU,q⟩:=ab q;refine rS<|cU O kv<|cC (G4 kU) O<|cA<|ak 1004 O ?_
  obtain⟨gp,mu,gS,Q,q⟩:=b2 q;refine rS<|cM<|cU O B<|cC (AK mu) O<|cP (bS oW rZ O O)<|cC (O3 Q) O<|cA<|ak 2028 O<|ah ?_
  obtain⟨iZ,qi,q⟩:=ab q;refine rS<|cU O kv<|cC (jU qi) O<|cM<|cP (da (aT O) (aT O))<|ak 2199023257068 O<|gc O q (fun Gq q=>?_) fun Gq q=>?_
  ·refine rS<|cB<|cF [4] O ?_
   cases q;exact an (r1 O)
  ·refine aj<|aw<|ah<|rS<|cM<|cP (da (aT O) aI)<|ak 8796093023724 O<|gc O q (fun acy q=>?_) fun acy q=>?_
   ·obtain⟨my,Cf,q⟩:=aH q;refine rS<|cU O px<|cP (sY (s':= .val (eh ([],[]))) (bA nY ni O O) O)<|cP (Rn X8 (aT O) (aT O))<|cM<|gV O O (ov 6 O on) (fun wk=>oM O)<|gV O O (ov 10 O on) (fun Az=>oM O)<|gV O O (oo 48 O id (oo 49 O id on)) (fun CL=>df (aT O) (aT O))<|cP (dh (aT O) O je)<|cM<|gV O O (ov 7 O on) (fun JQ=>oM O)<|gV O O (oo 53 O id on) (fun OQ=>uA (aT O) (Arg.s O))<|cP (dh (aT O) O je)<|cM<|gV O O (ov 8 O on) (fun Pn=>oM O)<|gV O O (ov 10 O on) (fun Ff=>oM O)<|gV O O (oo 57 O id (oo 58 O id on)) (fun Le=>df (aT O) (aT O))<|cP (dh (aT O) O je)<|cM<|gV O O on (fun Fe=>oC (zY (Cf Fe)) O)<|cP (dh (aT O) O je)<|cA<|cF [4] O ?_
    cases q;exact an (r1 O)
   ·refine aj (aw ?_);obtain⟨sE,Gv,q⟩:=aH q;obtain⟨yY,JX,q⟩:=aH q;obtain⟨oY,Fi,q⟩:=aH q;refine gE 24 mixed<|dP [6] O (oM O)<|dP [64] O (df (aT O) aI)<|dP [65] O (oM O)<|dV [5,66] O O O (ov 5 O on) (fun Ld=>ae O px)<|dV [2,66] O O O (ov 2 O on) (fun NZ=>ae O kv)<|dV [3,66] O O O (ov 3 O on) (fun Po=>ae O B)<|dV [66,68,69] O O O (oo 68 O id (oo 69 O id on)) (fun RZ=>oC (OW (Gv RZ)) O)<|dV [66,67,70] O O O (oo 67 O id (oo 70 O id on)) (fun V9=>Rn X8 (aT O) (aT O))<|dP [66,71] O (dh (aT O) O je)<|dP [72] O (oM O)<|dV [8,73] O O O (ov 8 O on) (fun ZL=>oM O)<|dV [73,74] O O O (oo 74 O id on) (fun acn=>df (aT O) aI)<|dP [73,75] O (dh (aT O) O je)<|dP [76] O (oM O)<|dV [7,77] O O O (ov 7 O on) (fun aih=>oM O)<|dV [2,77] O O O (ov 2 O on) (fun aif=>ae O kv)<|dV [3,77] O O O (ov 3 O on) (fun afy=>ae O B)<|dV [77,79,80] O O O (oo 79 O id (oo 80 O id on)) (fun acm=>oC (OX (JX acm)) O)<|dV [77,78,81] O O O (oo 78 O id (oo 81 O id on)) (fun aie=>uA (aT O) (aT O))<|dP [77,82] O (dh (aT O) O je)<|dP [83] O (oM O)<|dV [84] O O O on (fun ack=>oC (zY (Fi ack)) O)<|dP [84,85] O (dh (aT O) O je)<|dP [86] O (oA O)<|dN<|dE [4] O (by kernel_rfl)<|cD ?_
    cases q;exact an (r1 O)
end
end Trn
