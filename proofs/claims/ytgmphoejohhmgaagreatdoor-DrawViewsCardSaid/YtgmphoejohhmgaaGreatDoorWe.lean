/-
  Part of the proof of DrawViews.
-/
import Derived.Test.YtgmphoejohhmgaaGreatDoorWd
set_option maxRecDepth 100000
set_option maxHeartbeats 20000000
set_option linter.all false
open Go Go.RowKit Go.Proofs Go.Proofs.Tryz
namespace Trn
section
variable[D:DR]
def FZ{a0 a1 r}(q:yj a0 a1=some r):al prog 269 [(TL aK) a0,bg a1] (.vs [(TL aK) r.1,aY r.2]):=by
 refine c7 func269 O ntmps269 (by kernel_rfl) fun w0 H0=>rS<|cX<|cP (ba aK 237 17)<|cB<|ak 9 O<|rS<|cB<|cB<|ak 201 O<|rS<|cP (ba ar 91 12)<|ak 457 O<|ah<|rS<|cM<|cJ rC O<|cN<|ak 7340489 O<|ai<|jj [0,3,8,20,21] O (σ:=Bool×Bool×Int) (fun s1=>[(6,.val (aY s1.1)),(7,.val (aY s1.2.1)),(22,.val (TiZ s1.2.2))]) q O (fun k2 s1 q=>?_)
 refine rS<|cL O O<|ak 15729097 O<|ah<|gc O q (fun hb3 q=>?_) fun hb3 q=>?_
 ·refine aj<|aw<|ah<|ai ?_
  obtain⟨x4,h5,q⟩:=ab q;refine rS<|cP (oX Jl (dI O) O O h5)<|cR O tJ<|cT pM<|cs O O O tJ<|ak 7341513 O<|rS<|jg 1 O IS O ow<|cJ ky O<|cN<|ak 946864585 O<|ai<|jj [0,3,8,20,21,22,27,28] O (σ:=Bool×Bool×Int) (fun s6=>[(6,.val (aY s6.1)),(7,.val (aY s6.2.1)),(29,.val (TiZ s6.2.2))]) q O (fun k7 s6 q=>?_)
  refine rS<|cL O O<|ak 2020606409 O<|ah<|gc O q (fun Y q=>?_) fun Y q=>?_
  ·refine aj<|aw<|ah<|uU [0,3,8,20,21,22,27,28,29] O (α:=Bool×Bool) (fun s9=>[(6,.val (aY s9.1)),(7,.val (aY s9.2))]) q (fun OM q=>?_) (fun s9 q=>?_)
   ·refine ai ?_;obtain⟨iM,qC,q⟩:=ab q;refine rS<|cP (oX uw (dI O) O O qC)<|cR O g<|cT bY<|cs O O O g<|ak 946868681 O ?_
    obtain⟨iW,nJ,kd,S,q⟩:=b2 q;refine rS<|cU O fI<|cU O g<|cC (gF nJ) O<|cC (ja S) O<|cA<|ak 946872777 O<|ai<|rS<|cM<|cP (eC (aT O) aI)<|cA<|ak 138385826249 O<|gc O q (fun JS q=>?_) fun JS q=>?_
    ·exact rK<|cO (aA aB)<|ak 946864585 O (cm q O)
    ·refine rS<|cM<|cP (cq (aT O) aI)<|cA<|ak 1100458492361 O<|gc O q (fun ZP q=>?_) fun ZP q=>?_
     ·exact rK<|cO (aA aB)<|ak 946864585 O (cm q O)
     ·exact aj (cm q O)
   ·refine aw ?_;obtain⟨ju,Z,q⟩:=ab q;exact rK<|cH O Z<|cO (oM O)<|ak 946864585 O (cm q O)
  ·refine aN (aw ?_);obtain⟨kQ,wb,q⟩:=ab q;exact rK<|cH O wb<|cO (oM O)<|ak 7340489 O (cm q O)
 ·refine aN<|aw<|ah<|ai<|rS<|cM<|cP (jF (aT O))<|cA<|cF [0,3,7,8,45] O<|gc O q (fun N2 q=>?_) fun N2 q=>?_
  ·refine rS<|cP (ba aK 237 17)<|cB<|ak 48 O ?_
   cases q;exact an (fi (ij (t:=4) O) (fX O O (bu.tmp O O (bu.tmp O O bu.nil))))
  ·refine rS<|cM<|cP (jF (aT O))<|cA<|cF [0,3,8,48] O<|gc O q (fun N1 q=>?_) fun N1 q=>?_
   ·refine rS<|cM<|cA<|cB<|ak 48 O ?_
    cases q;exact an (r2 O)
   ·refine aj<|aw<|rS<|cP (ba aK 237 17)<|ak 16649 O<|ah<|rS<|cM<|cJ rC O<|cN<|cF [3,8,14,52,53,54] O<|ai<|jj [3,52,53] O (σ:=(ard V3)×(ard ((V3×Rat)×(ard V3)))×Int) (fun qn=>[(8,.buf 91 12 (lT ar qn.1)),(14,.buf 237 17 (lT aK qn.2.1)),(54,.val (TiZ qn.2.2))]) q O (fun NO qn q=>?_)
    refine rS<|cL O O<|ak 67553994410574088 O<|ah<|gc O q (fun Wc q=>?_) fun Wc q=>?_
    ·refine aj<|aw<|ah<|uU [3,52,53,54] O (α:=(ard V3)×(ard ((V3×Rat)×(ard V3)))) (fun UP=>[(8,.buf 91 12 (lT ar UP.1)),(14,.buf 237 17 (lT aK UP.2))]) q (fun k29 q=>?_) (fun UP q=>?_)
     ·refine ai ?_;obtain⟨qE,CO,q⟩:=ab q;refine rS<|cP (oX Jl (dI O) O O CO)<|cR O tJ<|cT pM<|cs O O O tJ<|ak 31525197391675656 O ?_
      obtain⟨qf,JW,q⟩:=ab q;refine rS<|jg 1 O IS O ow<|cU O fI<|cC (E3 JW) O<|cA<|ak 31525197391806728 O<|ah<|rS<|cM<|cJ ky O<|cN<|ak 32313327326383522056 O<|ai<|jj [3,14,16,17,52,53,54,62,63] O (σ:=(ard V3)×Int) (fun Lv=>[(8,.buf 91 12 (lT ar Lv.1)),(64,.val (TiZ Lv.2))]) q O (fun k35 Lv q=>?_)
      refine rS<|cL O O<|ak 69206815473802625288 O<|ah<|gc O q (fun air q=>?_) fun air q=>?_
      ·refine aj<|aw<|ah<|uU [3,14,16,17,52,53,54,62,63,64] O (α:=(ard V3)) (fun s37=>[(8,.buf 91 12 (lT ar s37))]) q (fun k38 q=>?_) (fun s37 q=>?_)
       ·refine ai ?_;obtain⟨sf,Gs,q⟩:=ab q;refine rS<|cP (oX uw (dI O) O O Gs)<|cR O g<|cT bY<|cs O O O g<|ak 32313327326384046344 O ?_
        obtain⟨AF,Li,AE,Pr,q⟩:=b2 q;refine rS<|cU O fI<|cU O g<|cC (gF Li) O<|cC (ja Pr) O<|cP (df (aT O) aI)<|ak 4754679810196029260040 O<|gc O q (fun acs q=>?_) fun acs q=>?_
        ·obtain⟨PF,XV,q⟩:=ab q;exact rK<|cQ<|cU O g<|cP (bS bY D7 O O)<|cS (dp ky Cn (dI O) O O (aT O) XV (bU O))<|cS (bt O O (bU O) _ (Or.inl O))<|ak 32313327326383522056 O (cm q O)
        ·exact aj (cm q O)
       ·refine aw ?_;obtain⟨Eh,h49,q⟩:=ab q;exact rK<|cH O h49<|cO (oM O)<|ak 32313327326383522056 O (cm q O)
      ·refine aN<|aw<|rS<|cM<|cJ ky O<|cP (cq (aT O) aI)<|cF [3,8,14,16,17,52,53,54,80] O<|gc O q (fun ain q=>?_) fun ain q=>?_
       ·obtain⟨J7,Ul,q⟩:=ab q;exact rK<|cQ<|jg 0 O DY O fI<|cM<|cP (bB Mo QY O)<|cP (bS pM Sd O O)<|cS (dp rC Sf (dI O) O O (aT O) Ul (bU O))<|cS (bt O O (bU O) _ (Or.inl O))<|cF [3,8,14,52,53,54] O (cm q O)
       ·exact aj (cm q O)
     ·refine aw ?_;obtain⟨FX,Uk,q⟩:=ab q;exact rK<|cH O Uk<|cO (oM O)<|cF [3,8,14,52,53,54] O (cm q O)
    ·refine aN<|aw<|ah<|Ci (ij (t:=8) O)<|lP (sS [3,8,14,52,53,54,55] O) ?_
     obtain⟨Ms,h56,x57,h58,q⟩:=b2 q;refine gD 11 mixed<|dP [14] O (eI)<|dP [3] O (ae O fI)<|dP [8] O (oM O)<|dQ 0 O jP O g<|dP [91,93] O (oC (Fs h56) O)<|dP [90,94] O (bB Mo QY O)<|dP [95] O (bS pM Sd O O)<|dG [89] [89,96,14] O (pB rC Sf (dI O) O O (aT O) h58 (bU O))<|dG [] [97] O (tO O O (bU O) _ (Or.inl O))<|dP [] O (aA aB)<|dN<|dE [4,5] O (by kernel_rfl)<|cD (aw ?_)
     cases q;exact an (fi (ij (t:=4) O) (fX O O (bu.tmp O O (bu.tmp O O bu.nil))))
def ub{a0 a1 r}(q:oh a0 a1=some r):al prog 197 [(TL aK) a0,(TL bg) a1] (.vs [(TL aK) r.1,aY r.2]):=by
 refine c7 func197 O ntmps197 (by kernel_rfl) fun w0 H0=>rS<|cP (aA (Arg.nn (f:=aK)))<|cB<|ak 3 O<|rS<|cB<|ak 3 O<|ah<|rS<|cM<|cJ mq O<|cN<|ak 3585 O<|ai<|jj [9,10] O (σ:=(ard ((V3×Rat)×(ard V3)))×Int) (fun s1=>[(0,.val (TL aK s1.1)),(11,.val (TiZ s1.2))]) q O (fun k2 s1 q=>?_)
 refine rS<|cL O O<|ak 7681 O<|ah<|gc O q (fun hb3 q=>?_) fun hb3 q=>?_
 ·refine aj<|aw<|ah<|ai ?_
  obtain⟨x4,h5,q⟩:=ab q;refine rS<|cP (oX uv (dI O) O O h5)<|cR O fI<|cT iA<|cs O O O fI<|ak 3841 O ?_
  obtain⟨x6,h7,q⟩:=ab q;refine rS<|cM<|cU O fI<|cC (FZ h7) O<|cZ<|cE<|cE<|cO (oA O)<|cA<|ak 3649 O<|rS<|cM<|cP (jF (aT O))<|ak 4197889 O<|gc O q (fun Y q=>?_) fun Y q=>?_
  ·refine rS<|cP (aA (Arg.nn (f:=aK)))<|cB<|ak 48 O ?_
   cases q;exact an (fi (US (t:=4) O) (fX O O (bu.tmp O O (bu.tmp O O bu.nil))))
  ·refine aj (aw ?_);obtain⟨x9,kG,q⟩:=ab q;exact rK<|cH O kG<|cO (oM O)<|ak 3585 O (cm q O)
 ·refine aN<|aw<|rS<|cM<|cA<|cB<|ak 48 O ?_
  cases q;exact an (r2 O)
def Ft{a0 r}(q:Aj a0=some r):al prog 285 [(TL bg) a0] (.vs [(TL aK) r.1,aY r.2]):=by
 refine c7 func285 O ntmps285 (by kernel_rfl) fun w0 H0=>rS<|cP (aA (Arg.nn (f:=aK)))<|cB<|ak 1 O<|rS<|cP (ba aX 87 4)<|cP (ba aX 87 4)<|ak 49 O<|ah<|rS<|cM<|cJ mq O<|cN<|ak 14385 O<|ai<|jj [0,11,12] O (σ:=ard Rat×ard Rat×Int) (fun s1=>[(4,.buf 87 4 (lT aX s1.1)),(5,.buf 87 4 (lT aX s1.2.1)),(13,.val (TiZ s1.2.2))]) q O (fun k2 s1 q=>?_)
 refine rS<|cL O O<|ak 30769 O<|ah<|gc O q (fun hb3 q=>?_) fun hb3 q=>?_
 ·refine aj<|aw<|ah<|ai ?_
  obtain⟨x4,h5,q⟩:=ab q;refine rS<|cP (oX uv (dI O) O O h5)<|cR O fI<|cT iA<|cs O O O fI<|ak 14513 O<|ah<|rS<|jg 0 O jP O g<|cN<|ak 800945 O<|ai<|jj [0,5,7,11,12,13,18] O (σ:=ard Rat×Int) (fun s6=>[(4,.buf 87 4 (lT aX s6.1)),(19,.val (TiZ s6.2))]) q O (fun k7 s6 q=>?_)
  refine rS<|cP (eC (aT O) aI)<|ak 1849521 O<|ah<|gc O q (fun Y q=>?_) fun Y q=>?_
  ·refine aj<|aw<|ah<|ai ?_
   obtain⟨x9,kG,q⟩:=ab q;refine rS<|cP (BC (f:=aX) (l:=([x4.1.1,x4.1.2.1,x4.1.2.2]:ard Rat)) Of d (fun _=>O) O (aT O) (aT O) kG)<|cT V<|cs O O O d<|ak 801457 O ?_
   obtain⟨iM,qC,iW,nJ,q⟩:=b2 q;refine rK<|cQ<|cU O d<|cC (GZ qC) O<|cP (bS V Av O O)<|cS (dp mr Aw (dI O) O O (aT O) nJ (bU O))<|cS (bt O O (bU O) _ (Or.inl O))<|ak 800945 O (aw ?_)
   obtain⟨kd,S,q⟩:=ab q;exact rK<|cH O S<|cO (oM O)<|ak 800945 O (cm q O)
  ·refine aN (aw ?_);obtain⟨iP,T,ju,Z,q⟩:=b2 q;refine rK<|cQ<|jg 1 O yM O d<|cC (GZ T) O<|cP (bS V Av O O)<|cS (dp mr Aw (dI O) O O (aT O) Z (bU O))<|cS (bt O O (bU O) _ (Or.inl O))<|ak 14385 O (aw ?_)
   obtain⟨kQ,wb,q⟩:=ab q;exact rK<|cH O wb<|cO (oM O)<|ak 14385 O (cm q O)
 ·refine aN (aw ?_);obtain⟨kP,wP,q⟩:=ab q;refine rS<|cQ<|cS (jK (s':= .gone) (xs:=[]) (ys:=[]) (AG wP) (dZ.same O) O O O aJ.nil aJ.nil (bU O) O)<|cT V<|cs O O O d<|ak 1057 O ?_
  obtain⟨nZ,Ba,oN,CP,Ax,IM,vH,Fh,xd,Gu,sK,Gt,q⟩:=b6 q;obtain⟨xc,JV,q⟩:=ab q;refine gE 15 mixed<|dP [] O (oC (Lq Ba) O)<|dP [10] O (ae O d)<|dP [37,38] O (oC (kh CP) O)<|dP [10] O (ae O d)<|dP [39,40] O (oC (kh IM) O)<|dP [5] O (eI)<|dT [42,5] O (SV (s':= .gone) (xs:=[]) (ys:=[]) (AG Fh) (dZ.same O) O O O aJ.nil aJ.nil (bU O) O)<|dP [41,43] O (oC (kh Gu) O)<|dP [44] O (oC (QI Gt) O)<|dP [0] O (oM O)<|dP [45,46] O (oC (ub JV) O)<|dP [47] O (dW O O)<|dP [47] O (dW O O)<|dP [48] O (oA O)<|dP [49] O (oA O)<|dN<|dE [2,3] O (by kernel_rfl)<|cD ?_
  cases q;exact an (r2 O)
def KU{a0 a1 r}(q:wD a0 a1=some r):al prog 83 [aX a0,aX a1] (.vs [aY r]):=by
 refine c7 func83 O ntmps83 (by kernel_rfl) fun w0 H0=>rS<|cX<|cX<|cB<|ak 12 O ?_
 obtain⟨x1,h2,q⟩:=ab q;refine rS<|cU O d<|cU O d<|cC (qN h2) O<|cP (df (aT O) aI)<|cA<|cF [4] O ?_
 cases q;exact an (r1 O)
def Vg{x y:Rat}{r:Bool}(hm:Km x y=some r):al prog 83 [aX x,aX y] (.vs [aY r]):=by
 obtain⟨hb,rfl⟩:=iL hm;obtain⟨h1,h2⟩:=eK hb;exact KU (ZV h1 h2)
def G1{a0 c0 r}(q:ti a0 c0=some r):al prog 349 [bg a0,nm (aK c0)] (.vs [aY r]):=by
 refine c7 func349 O ntmps349 (by kernel_rfl) fun w0 H0=>rS<|cX<|cB<|ak 6 O ?_
 obtain⟨x1,h2,q⟩:=ab q;obtain⟨x3,h4,q⟩:=aH q;refine rS<|jg 0 O jP O g<|cP (eG (aT O) O (aP.agg (i:=0) O O) DY)<|cP (eG (aT O) O (aP.agg (i:=0) O O) jP)<|cR O g<|cC (CY h2) O<|cM<|gV O O (ov 2 O on) (fun rW=>a8 O yM)<|gV O O (oo 11 O id (ov 2 O on)) (fun hg2=>oP 1 O O d)<|gV O O (ov 1 O on) (fun P=>eG (aT O) O (aP.agg (i:=0) O O) DY)<|gV O O (oo 13 O id on) (fun wk=>eG (aT O) O (aP.agg (i:=1) O O) yM)<|gV O O (oo 14 O id on) (fun Az=>aU (aT O) d)<|gV O O (oo 12 O id (oo 15 O id on)) (fun CL=>oC (Vg (h4 CL)) O)<|cP (dh (aT O) O je)<|cA<|ak 8 O ?_
 cases q;exact an (r1 O)
def qk{a0 a1 r}(q:kJ a0 a1=some r):al prog 384 [(TL bg) a0,(Fj prog (fun(x:(V3×Rat))=>[bg x]) (fun(x:Bool)=>[aY x])) a1] (.vs [TiZ r]):=by
 refine c7 func384 O ntmps384 (by kernel_rfl) fun w0 H0=>rS<|cI<|ak 3 O<|ah<|rS<|cM<|cJ mq O<|cN<|ak 387 O<|ai<|jj [0,1,7] O (σ:=Int) (fun s1=>[(8,.val (TiZ s1))]) q O (fun k2 s1 q=>?_)
 refine rS<|cL O O<|ak 899 O<|ah<|gc O q (fun hb3 q=>?_) fun hb3 q=>?_
 ·refine aj<|aw<|ah<|ai<|rS<|cM<|cA<|ak 419 O ?_
  obtain⟨x4,h5,x6,h7,q⟩:=b2 q;refine rS<|cM<|cM<|cM<|cP (oX uv (dI O) O O h5)<|cR O fI<|cP (qQ O h7 (aJ.cons (aT O) aJ.nil))<|ak 65955 O<|gc O q (fun Y q=>?_) fun Y q=>?_
  ·refine rS<|cM<|cA<|cF [4] O ?_
   cases q;exact an (r1 O)
  ·refine aj (aw ?_);obtain⟨x9,kG,q⟩:=ab q;exact rK<|cH O kG<|cO (oM O)<|ak 387 O (cm q O)
 ·refine aN<|aw<|rS<|cI<|cF [4] O ?_
  cases q;exact an (r1 O)
def oO{a0 a1 r}(q:j1 a0 a1=some r):al prog 348 [(TL bg) a0,(Fj prog (fun(x:(V3×Rat))=>[bg x]) (fun(x:Bool)=>[aY x])) a1] (.vs [aY r]):=by
 refine c7 func348 O ntmps348 (by kernel_rfl) fun w0 H0=>rS<|cB<|ak 3 O ?_
 obtain⟨x1,h2,q⟩:=ab q;refine rS<|cM<|cM<|cC (qk h2) O<|cP (jG (aT O) aI)<|cA<|cF [4] O ?_
 cases q;exact an (r1 O)
def KP{a0 r}(q:CB a0=some r):al prog 284 [(TL bg) a0] (.vs [aY r]):=by
 refine c7 func284 O ntmps284 (by kernel_rfl) fun w0 H0=>rS<|cB<|ak 1 O<|rS<|cP (ba bg 212 16)<|ak 9 O<|ah<|rS<|cM<|cJ mq O<|cN<|ak 14344 O<|ai<|jj [11,12] O (σ:=(ard (V3×Rat))×Int) (fun s1=>[(3,.buf 212 16 (lT bg s1.1)),(13,.val (TiZ s1.2))]) q O (fun k2 s1 q=>?_)
 refine rS<|cL O O<|ak 30728 O<|ah<|gc O q (fun hb3 q=>?_) fun hb3 q=>?_
 ·refine aj<|aw<|ah<|ai ?_
  obtain⟨x4,h5,q⟩:=ab q;refine rS<|cP (oX uv (dI O) O O h5)<|cR O fI<|cT iA<|cs O O O fI<|ak 14376 O ?_
  obtain⟨x6,h7,x8,h9,q⟩:=b2 q;refine gD 8 mixed<|dP [3] O (eI)<|dQ 0 O jP O g<|dP [] O (oC (Lq h7) O)<|dP [19,20] O (bB CW Ho O)<|dP [21] O (bS iA JZ O O)<|dG [17] [17,22,3] O (pB mq J4 (dI O) O O (aT O) h9 (bU O))<|dG [] [23] O (tO O O (bU O) _ (Or.inl O))<|dN<|dE [3,11,12,13] O (by kernel_rfl)<|cD (aw ?_)
  obtain⟨dz,jv,q⟩:=ab q;exact rK<|cH O jv<|cO (oM O)<|ak 14344 O (cm q O)
 ·refine aN (aw ?_);obtain⟨fp,kU,q⟩:=ab q;refine rS<|cQ<|cG (ij (t:=3) O)<|cG (jL (s:=26) O O)<|cC (Ft kU) O<|cZ<|cE<|cE<|cA<|cA<|ak 72 O<|ah<|rS<|cM<|cJ rC O<|cN<|ak 7516192776 O<|ai<|jj [3,30,31] O (σ:=Int) (fun Dr=>[(32,.val (TiZ Dr))]) q O (fun k15 Dr q=>?_)
  refine rS<|cL O O<|ak 16106127368 O<|ah<|gc O q (fun Gr q=>?_) fun Gr q=>?_
  ·refine aj<|aw<|ah<|ai ?_
   obtain⟨iP,T,q⟩:=ab q;refine rS<|cP (oX Jl (dI O) O O T)<|cR O tJ<|cT pM<|cs O O O tJ<|ak 7516193288 O ?_
   obtain⟨ju,Z,q⟩:=ab q;refine rS<|cM<|cG (pT (t:=9) O)<|cP (zd (A:=fun(x:(V3×Rat))=>[bg x]) (R:=fun(x:Bool)=>[aY x]) (fn:=fun x=>ti x iP) (aJ.cons (aT O) aJ.nil) (fun _ _ h=>G1 (D:=DR.strict) h))<|cC (oO Z) O<|cA<|ak 7516193800 O<|rS<|cM<|cP (jF (aT O))<|ak 1107027820552 O<|gc O q (fun acy q=>?_) fun acy q=>?_
   ·refine rS<|cB<|ak 4 O ?_
    cases q;exact an (r1 O)
   ·refine aj (aw ?_);obtain⟨my,Cf,q⟩:=ab q;exact rK<|cH O Cf<|cO (oM O)<|ak 7516192776 O (cm q O)
  ·refine aN<|aw<|rS<|cB<|ak 4 O ?_
   cases q;exact an (r1 O)
def QH{a0 r}(q:H7 a0=some r):al prog 211 [(TL bz) a0] (.vs [(TL aK) r.1,TiZ r.2]):=by
 refine c7 func211 O ntmps211 (by kernel_rfl) fun w0 H0=>rS<|cP (aA (Arg.nn (f:=aK)))<|cI<|ak 1 O ?_
 obtain⟨x1,h2,q⟩:=ab q;refine rS<|cM<|cC (QG h2) O<|cA<|cF [4] O<|ah ?_
 obtain⟨x3,h4,q⟩:=ab q;refine rS<|cM<|cC (KP h4) O<|cP (jF (aT O))<|ak 2064 O<|gc O q (fun CN q=>?_) fun CN q=>?_
 ·refine rS<|cP (aA (Arg.nn (f:=aK)))<|cI<|ak 12 O ?_
  cases q;exact an (fi (US (t:=2) O) (fX O O (bu.tmp O O (bu.tmp O O bu.nil))))
 ·refine aj (aw ?_);obtain⟨x6,h7,q⟩:=ab q;refine rS<|cM<|cC (Ft h7) O<|cZ<|cE<|cE<|cA<|cA<|ak 96 O<|ah<|rS<|cM<|cP (jF (aT O))<|cF [5,18] O<|gc O q (fun Y q=>?_) fun Y q=>?_
  ·refine rS<|cP (aA (Arg.nn (f:=aK)))<|cI<|ak 12 O ?_
   cases q;exact an (fi (US (t:=2) O) (fX O O (bu.tmp O O (bu.tmp O O bu.nil))))
  ·refine aj<|aw<|rS<|cM<|cA<|cI<|ak 12 O ?_
   cases q;exact an (r2 O)
def rm{a0 r}(q:nO a0=some r):al prog 132 [(TL bz) a0] (.vs [(TL aK) r.1,TiZ r.2]):=by
 refine c7 func132 O ntmps132 (by kernel_rfl) fun w0 H0=>rS<|cP (aA (Arg.nn (f:=aK)))<|cI<|ak 1 O<|ah<|rS<|cM<|cJ RP O<|cP (cq (aT O) aI)<|ak 1025 O<|gc O q (fun hb1 q=>?_) fun hb1 q=>?_
 ·refine rS<|cP (aA (Arg.nn (f:=aK)))<|cI<|ak 12 O ?_
  cases q;exact an (fi (US (t:=2) O) (fX O O (bu.tmp O O (bu.tmp O O bu.nil))))
 ·refine aj<|aw<|ah ?_
  obtain⟨x2,h3,q⟩:=ab q;refine rS<|cM<|cC (E4 h3) O<|cA<|ak 17 O<|rS<|cM<|cP (da (aT O) aI)<|ak 16401 O<|gc O q (fun Lf q=>?_) fun Lf q=>?_
  ·refine rS<|cM<|cP (aA (Arg.nn (f:=aK)))<|cA<|ak 12 O ?_
   cases q;exact an (fi (US (t:=2) O) (fX O O (bu.tmp O O (bu.tmp O O bu.nil))))
  ·refine aj<|aw<|ah<|rS<|cM<|cJ RP O<|cN<|ak 393217 O<|ai<|jj [0,17] O (σ:=Int) (fun s5=>[(18,.val (TiZ s5))]) q O (fun k6 s5 q=>?_)
   refine rS<|cL O O<|ak 917505 O<|ah<|gc O q (fun A9 q=>?_) fun A9 q=>?_
   ·refine aj<|aw<|ah<|ai<|rS<|cM<|cA<|ak 393249 O ?_
    obtain⟨x8,h9,q⟩:=aH q;obtain⟨dz,jv,q⟩:=aH q;obtain⟨fp,kU,q⟩:=aH q;obtain⟨gp,mu,q⟩:=aH q;refine gE 17 mixed<|dP [5] O (oM O)<|dP [21] O (cq (aT O) aI)<|dP [22] O (oM O)<|dV [0,23] O O O (ov 0 O on) (fun rW=>oM O)<|dV [5,23] O O O (ov 5 O on) (fun hg2=>oM O)<|dV [23,25] O O O (oo 25 O id on) (fun P=>bn (aT O) aI (h9 P))<|dV [23,24,26] O O O (oo 24 O id (oo 26 O id on)) (fun wk=>kS aaT (dI O) (aT O) (aT O) (jv wk))<|dV [23,27] O O O (oo 27 O id on) (fun Az=>eG (aT O) O (aP.agg (i:=0) O O) pD)<|dV [23,28] O O O (oo 28 O id on) (fun CL=>aU (aT O) JL)<|dV [0,23] O O O (ov 0 O on) (fun JQ=>oM O)<|dV [5,23] O O O (ov 5 O on) (fun OQ=>oM O)<|dV [23,30,31] O O O (oo 30 O id (oo 31 O id on)) (fun Pn=>kS aaT (dI O) (aT O) (aT O) (kU Pn))<|dV [23,32] O O O (oo 32 O id on) (fun Ff=>eG (aT O) O (aP.agg (i:=0) O O) pD)<|dV [23,33] O O O (oo 33 O id on) (fun Le=>aU (aT O) JL)<|dV [23,29,34] O O O (oo 29 O id (oo 34 O id on)) (fun Fe=>oC (C3 (mu Fe)) O)<|dV [23,35] O O O (oo 35 O id on) (fun Ld=>jG (aT O) aI)<|dP [23,36] O (dh (aT O) O je)<|dN<|dE [0,17,18,37] O (by kernel_rfl)<|cD ?_
    refine gc O q (fun Gr q=>?_) fun Gr q=>?_
    ·refine rS<|cP (aA (Arg.nn (f:=aK)))<|cI<|ak 12 O ?_
     cases q;exact an (fi (US (t:=2) O) (fX O O (bu.tmp O O (bu.tmp O O bu.nil))))
    ·refine aj (aw ?_);obtain⟨iP,T,q⟩:=ab q;exact rK<|cH O T<|cO (oM O)<|ak 393217 O (cm q O)
   ·refine aN (aw ?_);obtain⟨ju,Z,q⟩:=ab q;refine rS<|cM<|cC (QH Z) O<|cZ<|cE<|cE<|cA<|cA<|ak 193 O<|ah<|rS<|cM<|cP (df (aT O) aI)<|cM<|gV O O (ov 6 O on) (fun NZ=>oM O)<|gV O O (oo 47 O id on) (fun Po=>pW rC (aT O))<|gV O O (ov 0 O on) (fun RZ=>oM O)<|gV O O (oo 49 O id on) (fun V9=>pW RP (aT O))<|gV O O (oo 48 O id (oo 50 O id on)) (fun ZL=>eC (aT O) (aT O))<|cP (dh (aT O) O je)<|cF [6,7,52] O<|uU [6] O (α:=Int) (fun xl=>[(7,.val (TiZ xl))]) q (fun Sq q=>?_) (fun xl q=>?_)
    ·refine gc O q (fun N2 q=>?_) fun N2 q=>?_
     ·exact rK<|cO (aA aI)<|ak 192 O (cm q O)
     ·exact aj (cm q O)
    ·refine aw ?_;refine rS<|cM<|cM<|cA<|cA<|ak 12 O ?_
     cases q;exact an (r2 O)
def C2{a0 r}(q:vX a0=some r):al prog 198 [(TL aK) a0] (.vs [(TL bg) r]):=by
 refine c7 func198 O ntmps198 (by kernel_rfl) fun w0 H0=>rS<|cP (ba bg 212 16)<|ak 1 O<|rS<|cP (ba bg 212 16)<|ak 9 O<|ah<|rS<|cM<|cJ rC O<|cN<|ak 456 O<|ai<|jj [6,7] O (σ:=(ard (V3×Rat))×Int) (fun s1=>[(3,.buf 212 16 (lT bg s1.1)),(8,.val (TiZ s1.2))]) q O (fun k2 s1 q=>?_)
 refine rS<|cL O O<|ak 968 O<|ah<|gc O q (fun hb3 q=>?_) fun hb3 q=>?_
 ·refine aj<|aw<|ah<|ai ?_
  obtain⟨x4,h5,q⟩:=ab q;refine rS<|cP (oX Jl (dI O) O O h5)<|cR O tJ<|cT pM<|cs O O O tJ<|ak 488 O ?_
  obtain⟨x6,h7,q⟩:=ab q;refine rK<|cQ<|jg 0 O DY O fI<|cP (bS iA JZ O O)<|cS (dp mq J4 (dI O) O O (aT O) h7 (bU O))<|cS (bt O O (bU O) _ (Or.inl O))<|ak 456 O (aw ?_)
  obtain⟨x8,h9,q⟩:=ab q;exact rK<|cH O h9<|cO (oM O)<|ak 456 O (cm q O)
 ·refine aN<|aw<|rS<|cQ<|cG (ij (t:=3) O)<|cG (jL (s:=18) O O)<|cA<|ak 4 O ?_
  cases q;exact an (r1 O)
def Mx{a0 r}(q:DG a0=some r):al prog 118 [(TL (TL bz)) a0] (.vs [(TL (TL aK)) r.1,TiZ r.2]):=by
 refine c7 func118 O ntmps118 (by kernel_rfl) fun w0 H0=>rS<|cP (ba (TL aK) 232 1)<|cI<|ak 1 O<|ah<|rS<|cM<|cJ JN O<|cP (cq (aT O) aI)<|cF [0,17] O<|gc O q (fun hb1 q=>?_) fun hb1 q=>?_
 ·refine rS<|cP (ba (TL aK) 232 1)<|cI<|ak 12 O ?_
  cases q;exact an (fi (ij (t:=2) O) (fX O O (bu.tmp O O (bu.tmp O O bu.nil))))
 ·refine aj<|aw<|rS<|cP (ba (TL aK) 232 1)<|ak 17 O<|ah<|rS<|cM<|cJ JN O<|cN<|ak 1835024 O<|ai<|jj [18,19] O (σ:=(ard (ard ((V3×Rat)×(ard V3))))×Int) (fun s2=>[(4,.buf 232 1 (lT (TL aK) s2.1)),(20,.val (TiZ s2.2))]) q O (fun k3 s2 q=>?_)
  refine rS<|cL O O<|ak 3932176 O<|ah<|gc O q (fun Lf q=>?_) fun Lf q=>?_
  ·refine aj<|aw<|ah<|ai ?_
   obtain⟨x5,h6,q⟩:=ab q;refine rS<|cP (oX aaS (dI O) O O h6)<|cR O abK<|cA<|ak 1835088 O ?_
   obtain⟨x7,h8,q⟩:=ab q;refine rS<|cM<|cC (rm h8) O<|cZ<|cE<|cE<|cA<|cA<|ak 1835408 O<|ah<|rS<|cM<|cP (da (aT O) aI)<|ak 1075577232 O<|gc O q (fun N0 q=>?_) fun N0 q=>?_
   ·refine rS<|cM<|cP (ba (TL aK) 232 1)<|cA<|ak 12 O ?_
    cases q;exact an (fi (ij (t:=2) O) (fX O O (bu.tmp O O (bu.tmp O O bu.nil))))
   ·refine aj (aw ?_);obtain⟨dz,jv,q⟩:=ab q;refine rK<|cQ<|cM<|cP (bS ad3 ajh O O)<|cS (dp RT ajx (dI O) O O (aT O) jv (bU O))<|cS (bt O O (bU O) _ (Or.inl O))<|ak 1835024 O (aw ?_)
    obtain⟨fp,kU,q⟩:=ab q;exact rK<|cH O kU<|cO (oM O)<|ak 1835024 O (cm q O)
  ·refine aN<|aw<|ah<|rS<|cG (ij (t:=4) O)<|cM<|cJ RT O<|cN<|cF [4,37,38,39] O<|ai<|jj [4,37,38] O (σ:=Int) (fun Dr=>[(39,.val (TiZ Dr))]) q O (fun k15 Dr q=>?_)
   refine rS<|cL O O<|ak 2061584302096 O<|ah<|gc O q (fun Gr q=>?_) fun Gr q=>?_
   ·refine aj<|aw<|ah<|ai ?_
    obtain⟨iP,T,q⟩:=ab q;refine rS<|cM<|cP (oX Vk (dI O) O O T)<|cR O abN<|cA<|cA<|ak 962072675856 O ?_
    obtain⟨ju,Z,q⟩:=ab q;refine rS<|cM<|cM<|cP (sv Vk (dI O) (aT O) Lo.none (Lo.some (aT O)) Z)<|cJ RT O<|cN<|ak 493543281918992 O<|ai<|jj [4,10,37,38,39,46,47] O (σ:=Int) (fun xl=>[(48,.val (TiZ xl))]) q O (fun Sq xl q=>?_)
    refine rS<|cL O O<|ak 1056493235340304 O<|ah<|gc O q (fun N2 q=>?_) fun N2 q=>?_
    ·refine aj<|aw<|ah<|ai ?_
     obtain⟨sE,Gv,q⟩:=ab q;refine rS<|cP (oX Vk (dI O) O O Gv)<|cR O abN<|cA<|ak 493543281923088 O ?_
     obtain⟨yY,JX,oY,Fi,q⟩:=b2 q;refine rS<|cM<|cM<|cC (C2 JX) O<|cC (ub Fi) O<|cZ<|cE<|cE<|cA<|cA<|ak 493543281935376 O<|rS<|cM<|ak 576954295585342480 O<|gc O q (fun acw q=>?_) fun acw q=>?_
     ·refine rS<|cP (ba (TL aK) 232 1)<|cI<|ak 12 O ?_
      cases q;exact an (fi (ij (t:=2) O) (fX O O (bu.tmp O O (bu.tmp O O bu.nil))))
     ·refine aj (aw ?_);obtain⟨vH,Fh,q⟩:=ab q;exact rK<|cH O Fh<|cO (oM O)<|ak 493543281918992 O (cm q O)
    ·refine aN (aw ?_);obtain⟨xd,Gu,q⟩:=ab q;exact rK<|cH O Gu<|cO (oM O)<|cF [4,37,38,39] O (cm q O)
   ·refine aN<|aw<|rS<|cM<|cA<|cI<|ak 12 O ?_
    cases q;exact an (r2 O)
def nx{a0 r}(q:lG a0=some r):al prog 60 [(TL (TL bz)) a0] (.vs [TiZ r]):=by
 refine c7 func60 O ntmps60 (by kernel_rfl) fun w0 H0=>rS<|cI<|ak 1 O ?_
 obtain⟨x1,h2,q⟩:=ab q;refine rS<|cM<|cC (Mx h2) O<|cZ<|cE<|cE<|cA<|cA<|cF [4] O<|rS<|cM<|cA<|ak 4 O ?_
 cases q;exact an (r1 O)
def xO{a0 r}(q:rN a0=some r):al prog 89 [(TL (TL (TL bz))) a0] (.vs [TiZ r]):=by
 refine c7 func89 O ntmps89 (by kernel_rfl) fun w0 H0=>rS<|cI<|ak 1 O ?_
 obtain⟨x1,h2,x3,h4,x5,h6,q⟩:=b3 q;refine rS<|cM<|cJ VU O<|cP (cq (aT O) aI)<|cC (sj h2) O<|cM<|cP (fL (CH h4) (aJ.cons (aT O) (aJ.cons (Arg.fn fun _ _ h=>nx (D:=DR.strict) h) aJ.nil)))<|cP (bS sJ uW O O)<|cC (iJ h6) O<|cA<|ak 4 O ?_
 cases q;exact an (r1 O)
def Hb{a0 a1 r}(q:zr a0 a1=some r):al prog 57 [(TL (TL (TL bz))) a0,cz a1] (.vs [TiZ r]):=by
 refine c7 func57 O ntmps57 (by kernel_rfl) fun w0 H0=>rS<|cX<|cI<|ak 9 O ?_
 obtain⟨x1,h2,x3,h4,x5,h6,q⟩:=b3 q;refine gE 7 mixed<|dP [0] O (oM O)<|dP [5] O (oC (xO h2) O)<|dP [3] O (ae O kv)<|dP [7] O (oC (jU h4) O)<|dP [6,8] O (bS sJ uW O O)<|dP [9] O (oC (iJ h6) O)<|dP [10] O (oA O)<|dN<|dE [4] O (by kernel_rfl)<|cD ?_
 cases q;exact an (r1 O)
def C1{a0 r}(q:vW a0=some r):al prog 200 [(TL aK) a0] (.vs [(TL ar) r]):=by
 refine c7 func200 O ntmps200 (by kernel_rfl) fun w0 H0=>rS<|cP (ba ar 91 12)<|ak 1 O<|rS<|cP (ba ar 91 12)<|ak 9 O<|ah<|rS<|cM<|cJ rC O<|cN<|ak 456 O<|ai<|jj [6,7] O (σ:=(ard V3)×Int) (fun s1=>[(3,.buf 91 12 (lT ar s1.1)),(8,.val (TiZ s1.2))]) q O (fun k2 s1 q=>?_)
 refine rS<|cL O O<|ak 968 O<|ah<|gc O q (fun hb3 q=>?_) fun hb3 q=>?_
 ·refine aj<|aw<|ah<|ai ?_
  obtain⟨x4,h5,q⟩:=ab q;refine rS<|cP (oX Jl (dI O) O O h5)<|cR O tJ<|cT pM<|cs O O O tJ<|ak 488 O ?_
  obtain⟨x6,h7,q⟩:=ab q;refine rK<|cQ<|jg 1 O IS O ow<|cS (dp ky Cn (dI O) O O (aT O) h7 (bU O))<|cS (bt O O (bU O) _ (Or.inl O))<|ak 456 O (aw ?_)
  obtain⟨x8,h9,q⟩:=ab q;exact rK<|cH O h9<|cO (oM O)<|ak 456 O (cm q O)
 ·refine aN (aw ?_);obtain⟨dz,jv,q⟩:=ab q;refine rS<|cQ<|cG (ij (t:=3) O)<|cG (jL (s:=17) O O)<|cC (AH jv) O<|cS (bt O O (bU O) _ (Or.inl O))<|ak 4 O ?_
  cases q;exact an (fi (ij (t:=2) O) (fX O O (bu.tmp O O bu.nil)))
def l5{a0 r}(q:kC a0=some r):al prog 63 [ar a0] (.vs [aY r]):=by
 refine c7 func63 O ntmps63 (by kernel_rfl) fun w0 H0=>rS<|cX<|cB<|ak 2 O ?_
 obtain⟨x1,h2,q⟩:=ab q;obtain⟨x3,h4,q⟩:=aH q;obtain⟨x5,h6,q⟩:=aH q;refine rS<|cP (iO O M O)<|cV 0 O O d<|cC (iR h2) O<|cM<|gV O O (ov 1 O on) (fun rW=>iO O M O)<|gV O O (oo 7 O id (ov 1 O on)) (fun hg2=>oP 1 O O d)<|gV O O (oo 8 O id on) (fun P=>oC (iR (h4 P)) O)<|cP (fO (aT O) O jY)<|cM<|gV O O (ov 1 O on) (fun wk=>iO O M O)<|gV O O (oo 12 O id (ov 1 O on)) (fun Az=>oP 2 O O d)<|gV O O (oo 13 O id on) (fun CL=>oC (iR (h6 CL)) O)<|cP (fO (aT O) O jY)<|cA<|ak 4 O ?_
 cases q;exact an (r1 O)
def lC{a0 r}(q:ka a0=some r):al prog 64 [ar a0] (.vs [aW r]):=by
 refine c7 func64 O ntmps64 (by kernel_rfl) fun w0 H0=>rS<|cX<|cT jR<|ak 6 O ?_
 obtain⟨x1,h2,x3,h4,x5,h6,q⟩:=b3 q;refine gE 11 mixed<|dP [1] O (iO O M O)<|dP [3,1] O (oP 0 O O d)<|dP [4] O (oC (iI h2) O)<|dP [1] O (iO O M O)<|dP [6,1] O (oP 1 O O d)<|dP [7] O (oC (iI h4) O)<|dP [1] O (iO O M O)<|dP [9,1] O (oP 2 O O d)<|dP [10] O (oC (iI h6) O)<|dP [5,8,11] O (bA jR jC O O)<|dS [2,12] O (ds O O O B)<|dN<|dE [2] O (by kernel_rfl)<|cD ?_
 cases q;exact an (q1 O B)
def Fp{a0 r}(q:Ah a0=some r):al prog 135 [(TL ar) a0] (.vs [(TL aW) r.1,TiZ r.2]):=by
 refine c7 func135 O ntmps135 (by kernel_rfl) fun w0 H0=>rS<|cP (ba aW 24 3)<|cI<|ak 1 O<|rS<|cP (ba aW 24 3)<|ak 17 O<|ah<|rS<|cM<|cJ ky O<|cN<|ak 912 O<|ai<|jj [7,8] O (σ:=(ard ate)×Int) (fun s1=>[(4,.buf 24 3 (lT aW s1.1)),(9,.val (TiZ s1.2))]) q O (fun k2 s1 q=>?_)
 refine rS<|cL O O<|ak 1936 O<|ah<|gc O q (fun hb3 q=>?_) fun hb3 q=>?_
 ·refine aj<|aw<|ah<|ai ?_
  obtain⟨x4,h5,q⟩:=ab q;refine rS<|cP (oX uw (dI O) O O h5)<|cR O g<|cT bY<|cs O O O g<|ak 976 O<|ah ?_
  obtain⟨x6,h7,q⟩:=ab q;refine rS<|cU O g<|cC (l5 h7) O<|ak 17360 O<|gc O q (fun Y q=>?_) fun Y q=>?_
  ·refine rS<|cP (ba aW 24 3)<|cI<|ak 12 O ?_
   cases q;exact an (fi (ij (t:=2) O) (fX O O (bu.tmp O O (bu.tmp O O bu.nil))))
  ·refine aj (aw ?_);obtain⟨x9,kG,iM,qC,q⟩:=b2 q;refine rK<|cQ<|cU O g<|cC (lC kG) O<|cP (bS jR Oy O O)<|cS (dp As agT (dI O) O O (aT O) qC (bU O))<|cS (bt O O (bU O) _ (Or.inl O))<|ak 912 O (aw ?_)
   obtain⟨iW,nJ,q⟩:=ab q;exact rK<|cH O nJ<|cO (oM O)<|ak 912 O (cm q O)
 ·refine aN<|aw<|rS<|cQ<|cG (ij (t:=4) O)<|cG (jL (s:=21) O O)<|cA<|cI<|ak 12 O ?_
  cases q;exact an (r2 O)
def Cu{a0 r}(q:wC a0=some r):al prog 120 [(TL bz) a0] (.vs [(TL aW) r.1,TiZ r.2]):=by
 refine c7 func120 O ntmps120 (by kernel_rfl) fun w0 H0=>rS<|cP (aA (Arg.nn (f:=aW)))<|cI<|ak 1 O ?_
 obtain⟨x1,h2,q⟩:=ab q;refine rS<|cM<|cC (rm h2) O<|cZ<|cE<|cE<|cA<|cA<|ak 48 O<|ah<|rS<|cM<|cP (da (aT O) aI)<|ak 4144 O<|gc O q (fun hb3 q=>?_) fun hb3 q=>?_
 ·refine rS<|cM<|cP (aA (Arg.nn (f:=aW)))<|cA<|ak 12 O ?_
  cases q;exact an (fi (US (t:=2) O) (fX O O (bu.tmp O O (bu.tmp O O bu.nil))))
 ·refine aj (aw ?_);obtain⟨x4,h5,x6,h7,q⟩:=b2 q;refine rS<|cM<|cC (C1 h5) O<|cC (Fp h7) O<|cE<|cE<|cA<|cA<|ak 12 O ?_
  cases q;exact an (r2 O)
def Db{a0 r}(q:yz a0=some r):al prog 61 [(TL (TL bz)) a0] (.vs [(TP dH) r]):=by
 refine c7 func61 O ntmps61 (by kernel_rfl) fun w0 H0=>?_
 refine rS<|cP (aA (Arg.c O))<|ak 1 O ?_
 refine rS<|cP (DB (l:=[TN (TL bg) [],TN (TL ar) [],TN bg []]) aat aeo iy.nil)<|cP (Xk (ps:=[.buf 207 1 [],.buf 137 1 [],.buf 212 16 []]) true (aT O) aeU (yQ.buf O (yQ.buf O (yQ.buf O (yQ.nil)))))<|cS (bt O O (bU O) _ (Or.inl O))<|ak 9 O ?_
 refine rS<|cP (Gd (K:=114) (E:=4) (Eb:=0) (sz:=0) (α:=(Int×Int×Int)×adx) (β:=Bool) bz (fun v=> .val (aY v)))<|cS (bt O O (bU O) _ (Or.inl O))<|ak 25 O ?_
 refine ah<|rS<|cM<|cJ JN O<|cN<|ak 3670040 O ?_
 refine ai<|jj [19,20] O (σ:=((ard (ard (V3×Rat)))×(ard (ard V3))×(ard (V3×Rat)))×(ard (((Int×Int×Int)×adx)×Bool))×Int) (fun s1=>[(3,.qH 209 true [.buf 207 1 (lT (TL bg) s1.1.1),.buf 137 1 (lT (TL ar) s1.1.2.1),.buf 212 16 (lT bg s1.1.2.2)]),(4,.nK 114 4 0 0 (mM bz (fun v=> .val (aY v)) s1.2.1)),(21,.val (TiZ s1.2.2))]) q O (fun k2 s1 q=>?_)
 refine rS<|cL O O<|ak 7864344 O ?_
 refine ah<|gc O q (fun hb3 q=>?_) fun hb3 q=>?_
 ·refine aj<|aw<|ah<|ai ?_
  obtain⟨x4,h5,q⟩:=ab q;refine rS<|cP (oX aaS (dI O) O O h5)<|cR O abK<|cA<|ak 3670104 O ?_
  refine rS<|cP (ba bg 212 16)<|ak 3670232 O ?_
  refine ah<|rS<|cM<|cJ RP O<|cN<|ak 238551256 O ?_
  refine ai<|jj [6,19,20,21,25,26] O (σ:=((ard (ard (V3×Rat)))×(ard (ard V3))×(ard (V3×Rat)))×(ard (((Int×Int×Int)×adx)×Bool))×(ard (V3×Rat))×Int) (fun s6=>[(3,.qH 209 true [.buf 207 1 (lT (TL bg) s6.1.1),.buf 137 1 (lT (TL ar) s6.1.2.1),.buf 212 16 (lT bg s6.1.2.2)]),(4,.nK 114 4 0 0 (mM bz (fun v=> .val (aY v)) s6.2.1)),(7,.buf 212 16 (lT bg s6.2.2.1)),(27,.val (TiZ s6.2.2.2))]) q O (fun k7 s6 q=>?_)
  refine rS<|cL O O<|ak 506986712 O ?_
  refine ah<|gc O q (fun Y q=>?_) fun Y q=>?_
  ·refine aj<|aw<|ah<|uU [6,19,20,21,25,26,27] O (α:=((ard (ard (V3×Rat)))×(ard (ard V3))×(ard (V3×Rat)))×(ard (((Int×Int×Int)×adx)×Bool))×(ard (V3×Rat))) (fun s9=>[(3,.qH 209 true [.buf 207 1 (lT (TL bg) s9.1.1),.buf 137 1 (lT (TL ar) s9.1.2.1),.buf 212 16 (lT bg s9.1.2.2)]),(4,.nK 114 4 0 0 (mM bz (fun v=> .val (aY v)) s9.2.1)),(7,.buf 212 16 (lT bg s9.2.2))]) q (fun OM q=>?_) (fun s9 q=>?_)
   ·refine ai ?_;obtain⟨iM,qC,q⟩:=ab q;refine rS<|cP (oX aaT (dI O) O O qC)<|cR O lO<|cT pN<|cs O O O lO<|ak 238551768 O ?_
    obtain⟨iW,nJ,kd,S,q⟩:=b2 q;refine rS<|cQ<|cU O lO<|cC (xM nJ) O<|cP (bS iA JZ O O)<|cS (dp mq J4 (dI O) O O (aT O) S (bU O))<|cS (bt O O (bU O) _ (Or.inl O))<|ak 238551768 O ?_
    obtain⟨iP,T,ju,Z,kQ,wb,kP,wP,nZ,Ba,oN,CP,q⟩:=b6 q;refine gE 21 mixed<|dP [9] O (a8 O pD)<|dP [36,9] O (cg O sc aI (by decide) (by decide))<|dP [37,9] O (b9 O O (aP.trans (aP.agg (i:=0) O O) O (aP.agg (i:=0) O O)) C)<|dP [38] O (Eo (aT O) T)<|dP [9] O (a8 O pD)<|dP [40,9] O (cg O sc aI (by decide) (by decide))<|dP [41,9] O (b9 O O (aP.trans (aP.agg (i:=0) O O) O (aP.agg (i:=1) O O)) C)<|dP [42] O (Eo (aT O) Z)<|dP [9] O (a8 O pD)<|dP [44,9] O (cg O sc aI (by decide) (by decide))<|dP [45,9] O (b9 O O (aP.trans (aP.agg (i:=0) O O) O (aP.agg (i:=2) O O)) C)<|dP [46] O (Eo (aT O) wb)<|dP [39,43,47] O (bA QB sc O O)<|dQ 1 O Ob O X<|dP [50] O (oC (jT wP) O)<|dP [51] O (oC (FC Ba) O)<|dP [52] O (oC (iI CP) O)<|dP [48,53] O (bB pN Ln O)<|dP [] O (gW pN)<|dS [10,54] O (ds O O O lO)<|dN<|dE [3,4,6,7,9,10,19,20,21,25,26,27] O (by kernel_rfl)<|cD ?_
    refine rS<|cQ<|cU O lO<|cP (JC (F:=aY) (x:=iM) (z:=false) RB abR aaD (jD.same O) O (aT O))<|cP (jF (aT O))<|cM<|gV O O (ov 4 O on) (fun rW=>eI)<|gV O O (ov 10 O on) (fun hg2=>ae O lO)<|gV O O (oo 60 O id (oo 61 O id (ov 4 O on))) (fun P=>JC (F:=aY) (x:=((iP,ju,kQ),oN)) (z:=false) RB abR aaD (jD.same O) O (aT O))<|gV O O (oo 62 O id on) (fun wk=>jF (aT O))<|cP (dh (aT O) O je)<|ak 18446744073948103384 O ?_
    refine gc O q (fun R1 q=>?_) fun R1 q=>?_
    ·refine rS<|cQ<|cU O lO<|cS (aaO (F:=aY) (x:=iM) (y:=true) RB abR (jD.same O) O (aT O) aB)<|ak 238551768 O ?_
     refine Mi (k:=122) (t:=3) O O fun b3=>?_
     refine lP (sS [3,4,6,7,9,19,20,21,25,26,27,122] O) ?_;obtain⟨qE,CO,qf,JW,q⟩:=b2 q;exact gD 12 mixed<|dP [122] O (DA (k:=122) O)<|dP [122] O (DA (k:=122) O)<|dP [68] O (xn O)<|dP [69] O (jr O D0)<|dT [70,3] O (MX (i:=2) false (iV.ptr O) O O O O Gj (bU O) O)<|dP [9] O (ae O lO)<|dP [72] O (oC (xM CO) O)<|dP [73] O (bS iA JZ O O)<|dG [] [71,74] O (Mh mq J4 (dI O) O (aT O) JW (bU O))<|dP [67] O (xn O)<|dP [76] O (jr O D0)<|dS [75,77,3] O (WU (i:=2) (iV.ptr O) O O O (wS.buf O) O Gj)<|dN<|dE [3,4,6,7,19,20,21,25,26,27,75] O (by kernel_rfl)<|cG (we (t:=3) (u:=75) (i:=2) O O O O)<|cY (sS [3,4,6,7,19,20,21,25,26,27] O) (cm q O)
    ·exact aj (cm q O)
   ·refine aw ?_;obtain⟨yX,N6,q⟩:=ab q;exact rK<|cH O N6<|cO (oM O)<|ak 238551256 O (cm q O)
  ·refine aN (aw ?_);obtain⟨uj,R5,q⟩:=ab q;refine rS<|cP (Nx O)<|cP (Nx O)<|cP (xn O)<|cP (jr O D1)<|cS (Bp (i:=0) false (iV.ptr O) O O O O NM (bU O) O)<|cQ<|cG (ij (t:=7) O)<|cG (jL (s:=84) O O)<|cP (bS ad4 ajg O O)<|cS (xk RS ajw (dI O) O (aT O) R5 (bU O))<|cWm 144466635443948186884374744 O<|cP (xn O)<|cP (jr O D1)<|cS (F8 (i:=0) (iV.ptr O) O O O (wS.buf O) O NM)<|cG (we (t:=3) (u:=86) (i:=0) O O O O)<|cY (sS [3,4,6,19,20,21] O) ?_
   refine rS<|cP (ba ar 91 12)<|ak 3672152 O ?_
   obtain⟨Fm,Um,q⟩:=ab q;refine rS<|cM<|cC (Cu Um) O<|cZ<|cE<|cE<|cA<|cA<|ak 3676184 O ?_
   refine ah<|rS<|cM<|cJ As O<|cN<|cF [3,4,11,19,20,21,94,95,96] O ?_
   refine ai<|jj [3,4,19,20,21,94,95] O (σ:=(ard V3)×Int) (fun y9=>[(11,.buf 91 12 (lT ar y9.1)),(96,.val (TiZ y9.2))]) q O (fun k41 y9 q=>?_)
   refine rS<|cL O O<|cF [3,4,11,19,20,21,94,95,96,97] O ?_
   refine ah<|gc O q (fun aip q=>?_) fun aip q=>?_
   ·refine aj<|aw<|ah<|ai ?_
    obtain⟨AE,Pr,q⟩:=ab q;refine rS<|cP (oX Hs (dI O) O O Pr)<|cR O B<|cT jR<|cs O O O B<|cF [3,4,11,15,19,20,21,94,95,96] O ?_
    obtain⟨PG,ZQ,Lk,Sy,q⟩:=b2 q;refine rK<|cQ<|cU O B<|cC (gT ZQ) O<|cP (bS bY D7 O O)<|cS (dp ky Cn (dI O) O O (aT O) Sy (bU O))<|cS (bt O O (bU O) _ (Or.inl O))<|cF [3,4,11,19,20,21,94,95,96] O (aw ?_)
    obtain⟨KH,h50,q⟩:=ab q;exact rK<|cH O h50<|cO (oM O)<|cF [3,4,11,19,20,21,94,95,96] O (cm q O)
   ·refine aN (aw ?_);obtain⟨J7,Ul,q⟩:=ab q;refine rK<|cP (Nx O)<|cP (Nx O)<|cP (xn O)<|cP (jr O IT)<|cS (Bp (i:=1) false (iV.ptr O) O O O O RM (bU O) O)<|cQ<|cG (ij (t:=11) O)<|cG (jL (s:=111) O O)<|cP (bS ad6 ajf O O)<|cS (xk afn ajv (dI O) O (aT O) Ul (bU O))<|cWm 19390280686700425416559548022917144 O<|cP (xn O)<|cP (jr O IT)<|cS (F8 (i:=1) (iV.ptr O) O O O (wS.buf O) O RM)<|cG (we (t:=3) (u:=113) (i:=1) O O O O)<|cY (sS [3,4,19,20,21] O) (aw ?_)
    obtain⟨FX,Uk,q⟩:=ab q;exact rK<|cH O Uk<|cO (oM O)<|ak 3670040 O (cm q O)
 ·refine aN<|aw<|rS<|cP (Nx O)<|cG (Xh (t:=3) O (ua.buf (ua.buf (ua.buf ua.nil))))<|cG (akk (u:=117) O O)<|cA<|ak 4 O ?_
  cases q;exact an (r1 O)
def Fx{a0 r}(q:Ak a0=some r):al prog 91 [(TL (TL (TL bz))) a0] (.vs [(TL (TP dH)) r]):=by
 refine c7 func91 O ntmps91 (by kernel_rfl) fun w0 H0=>rS<|cP (ba (TP dH) 124 1)<|ak 1 O<|rS<|cP (ba (TP dH) 124 1)<|ak 9 O<|ah<|rS<|cM<|cJ VU O<|cN<|ak 456 O<|ai<|jj [6,7] O (σ:=(ard ((ard (ard (V3×Rat)))×(ard (ard V3))×(ard (V3×Rat))))×Int) (fun s1=>[(3,.buf 124 1 (lT (TP dH) s1.1)),(8,.val (TiZ s1.2))]) q O (fun k2 s1 q=>?_)
 refine rS<|cL O O<|ak 968 O<|ah<|gc O q (fun hb3 q=>?_) fun hb3 q=>?_
 ·refine aj<|aw<|ah<|ai ?_
  obtain⟨x4,h5,q⟩:=ab q;refine rS<|cP (oX age (dI O) O O h5)<|cR O agu<|cA<|ak 488 O ?_
  obtain⟨x6,h7,x8,h9,q⟩:=b2 q;refine rK<|cQ<|cM<|cC (Db h7) O<|cP (bS Yr ajj O O)<|cS (dp Me ajy (dI O) O O (aT O) h9 (bU O))<|cS (bt O O (bU O) _ (Or.inl O))<|ak 456 O (aw ?_)
  obtain⟨dz,jv,q⟩:=ab q;exact rK<|cH O jv<|cO (oM O)<|ak 456 O (cm q O)
 ·refine aN<|aw<|rS<|cQ<|cG (ij (t:=3) O)<|cG (jL (s:=18) O O)<|cA<|ak 4 O ?_
  cases q;exact an (r1 O)
end
end Trn
