/-
  Part of the proof of DrawViews.
-/
import Derived.Test.YtgmphoejohhmgaaGreatDoorWh
set_option maxRecDepth 100000
set_option maxHeartbeats 20000000
set_option linter.all false
open Go Go.RowKit Go.Proofs Go.Proofs.Tryz
namespace Trn
section
variable[D:DR]
def Fz{a0 r}(q:Am a0=some r):al prog 148 [(TL aR) a0] (.fr 89 8 (lT aR r)):=by
 refine c7 func148 O ntmps148 (by kernel_rfl) fun w0 H0=>rS<|cP (ba aR 89 8)<|ak 1 O<|rS<|cP (ba aR 89 8)<|ak 9 O<|ah<|rS<|cM<|cJ rD O<|cN<|ak 456 O<|ai<|jj [6,7] O (σ:=(ard (Rat×Rat))×Int) (fun s1=>[(3,.buf 89 8 (lT aR s1.1)),(8,.val (TiZ s1.2))]) q O (fun k2 s1 q=>?_)
 refine rS<|cL O O<|ak 968 O<|ah<|gc O q (fun hb3 q=>?_) fun hb3 q=>?_
 ·refine aj<|aw<|ah<|ai ?_
  obtain⟨x4,h5,q⟩:=ab q;refine rS<|cP (oX Jm (dI O) O O h5)<|cR O kc<|cT xL<|cs O O O kc<|ak 488 O<|ah<|ai<|jj [5,6,7,8] O (σ:=(ard (Rat×Rat))) (fun s6=>[(3,.buf 89 8 (lT aR s6))]) q O (fun k7 s6 q=>?_)
  refine ah ?_;obtain⟨x8,h9,q⟩:=aH q;obtain⟨dz,jv,q⟩:=aH q;obtain⟨fp,kU,q⟩:=aH q;obtain⟨gp,mu,q⟩:=aH q;obtain⟨gS,Q,q⟩:=aH q;obtain⟨iZ,qi,q⟩:=aH q;obtain⟨kR,h21,q⟩:=aH q;obtain⟨my,Cf,q⟩:=aH q;refine gE 21 mixed<|dP [3] O (eI)<|dP [12,3] O (mU rD O O)<|dP [13] O (jG (aT O) aI)<|dP [14] O (oM O)<|dV [3,15] O O O (ov 3 O on) (fun rW=>eI)<|dV [3,15] O O O (ov 3 O on) (fun hg2=>eI)<|dV [15,17,3] O O O (oo 17 O id (ov 3 O on)) (fun P=>mU rD O O)<|dV [15,18] O O O (oo 18 O id on) (fun wk=>bn (aT O) aI (h9 wk))<|dV [15,16,19,3] O O O (oo 16 O id (oo 19 O id (ov 3 O on))) (fun Az=>dK Jm O O (aT O) (jv Az))<|dV [15,20,3] O O O (oo 20 O id (ov 3 O on)) (fun CL=>og (f:=aR) (fun _=>O) O O (bF (kU CL)) kc)<|dV [3,15] O O O (ov 3 O on) (fun JQ=>eI)<|dV [3,15] O O O (ov 3 O on) (fun OQ=>eI)<|dV [15,23,3] O O O (oo 23 O id (ov 3 O on)) (fun Pn=>mU rD O O)<|dV [15,24] O O O (oo 24 O id on) (fun Ff=>bn (aT O) aI (mu Ff))<|dV [15,22,25,3] O O O (oo 22 O id (oo 25 O id (ov 3 O on))) (fun Le=>dK Jm O O (aT O) (Q Le))<|dV [15,26,3] O O O (oo 26 O id (ov 3 O on)) (fun Fe=>og (f:=aR) (fun _=>O) O O (bF (qi Fe)) kc)<|dV [5,15] O O O (ov 5 O on) (fun Ld=>ae O kc)<|dV [15,21,27,28] O O O (oo 21 O id (oo 27 O id (oo 28 O id on))) (fun NZ=>oC (SN (h21 NZ)) O)<|dV [15,29] O O O (oo 29 O id on) (fun Po=>oC (ja (Cf Po)) O)<|dV [15,30] O O O (oo 30 O id on) (fun RZ=>yc (aT O) aI)<|dP [15,31] O (dh (aT O) O je)<|dN<|dE [3,5,6,7,8,32] O (by kernel_rfl)<|cD ?_
  refine gc O q (fun N1 q=>?_) fun N1 q=>?_
  ·refine aj<|aw<|ai ?_
   obtain⟨nZ,Ba,oN,CP,q⟩:=b2 q;exact rK<|cQ<|cQ<|cP (mU rD O O)<|cP (bn (aT O) aI Ba)<|cS (aaQ (f:=aR) Jm (dI O) (dZ.same O) O (aT O) CP (bU O))<|cS (bt O O (bU O) _ (Or.inl O))<|ak 488 O (cm q O)
  ·refine aN (aw ?_);obtain⟨Ax,IM,q⟩:=ab q;refine rK<|cQ<|cU O kc<|cP (bS xL WA O O)<|cS (dp rD Sg (dI O) O O (aT O) IM (bU O))<|cS (bt O O (bU O) _ (Or.inl O))<|ak 456 O (aw ?_)
   obtain⟨vH,Fh,q⟩:=ab q;exact rK<|cH O Fh<|cO (oM O)<|ak 456 O (cm q O)
 ·refine aN (aw ?_);obtain⟨xd,Gu,sK,Gt,q⟩:=b2 q;refine rS<|cQ<|cQ<|cP (mU rD O O)<|cP (bn (aT O) aI Gu)<|cS (aaQ (f:=aR) Jm (dI O) (dZ.same O) O (aT O) Gt (bU O))<|cS (bt O O (bU O) _ (Or.inl O))<|ak 4 O ?_
  cases q;exact an (wQ O O O O)
def qm{a0 r}(q:kL a0=some r):al prog 150 [(TN aR) a0] (.fr 89 8 (lT aR r)):=by
 refine c7 func150 O ntmps150 (by kernel_rfl) fun w0 H0=>rS<|cP (ba aR 89 8)<|ak 1 O<|ah<|rS<|cM<|cP (qo rD (aT O))<|ak 17 O<|gc O q (fun hb1 q=>?_) fun hb1 q=>?_
 ·refine rS<|cP (ba aR 89 8)<|ak 4 O ?_
  cases q;exact an (wQ O O O O)
 ·refine aj (aw ?_);obtain⟨x2,h3,q⟩:=ab q;refine rS<|cP (IW aR WA)<|cM<|cS (xk rD Sg (dI O) O ((aT O).imp Yk) h3 (bU O))<|cS (bt O O (bU O) _ (Or.inl O))<|ak 4 O ?_
  cases q;exact an (wQ O O O O)
def SO{a0 r}(q:Ks a0=some r):fF prog 73 [] (.buf 89 8 (lT aR a0)) (.gone) [] [(TL aR) r]:=by
 refine uS (N:=22) func73 O ntmps73 (by simp) amc O O fun w1 v w0 H0 hk=>?_
 refine lP (sS [0] O) ?_;refine rS<|cP (ba aR 89 8)<|ak 1 O ?_
 obtain⟨x1,h2,q⟩:=ab q;refine rS<|cQ<|cS (jK (xs:=[]) (ys:=[.func 145]) (Y0 h2) (dZ.same O) O O O aJ.nil (aJ.cons (Arg.fn fun _ _ h=>j7 (D:=DR.strict) h) aJ.nil) (bU O) O)<|ak 1 O ?_
 obtain⟨x3,h4,q⟩:=ab q;refine rS<|cQ<|cS (Jk (Q7 h4) O O (aJ.cons (Arg.fn fun _ _ h=>O4 (D:=DR.strict) h) aJ.nil) (bU O))<|cO (oA O)<|ak 1 O<|rS<|cP (aA Arg.fnc)<|ak 9 O ?_
 obtain⟨x5,h6,q⟩:=ab q;refine rS<|cM<|cM<|cP (Tx O (Fz h6) (aJ.cons (aT O) aJ.nil))<|cS (bt O O (bU O) _ (Or.inl O))<|ak 25 O ?_
 obtain⟨h7,q⟩:=rE q;obtain⟨x8,h9,q⟩:=ab q;refine rS<|cM<|cP (fL (qm h9) (aJ.cons ((aT O).imp (UM (not_true h7))) aJ.nil))<|cS (bt O O (bU O) _ (Or.inl O))<|ak 56 O ?_
 obtain⟨dz,jv,q⟩:=ab q;refine rS<|cQ<|cS (jK (xs:=[]) (ys:=[]) (Q5 jv) (dZ.same O) O O O aJ.nil aJ.nil (bU O) O)<|ak 56 O ?_
 obtain⟨fp,kU,gp,mu,q⟩:=b2 q;refine rS<|cQ<|cM<|cQ<|cG (ij (t:=5) O)<|cG (jL (s:=19) O O)<|cP (Tx O (Fz kU) (aJ.cons (aT O) aJ.nil))<|cG (ij (t:=20) O)<|cS (dp rD Sg (dI O) O O (aT O) mu (bU O))<|cS (bt O O (bU O) _ (Or.inl O))<|ak 4 O ?_
 cases q;exact an (fi (ij (t:=2) O) (Sb hk O (bu.tmp O O bu.nil)))
def MT{a0 a1 r}(q:DN a0 a1=some r):al prog 22 [(TL (TL bz)) a0,cz a1] (.vs [(TL eh) r.1,TiZ r.2]):=by
 refine c7 func22 O ntmps22 (by kernel_rfl) fun w0 H0=>rS<|cX<|cP (ba eh 30 2)<|cI<|ak 9 O<|ah ?_
 obtain⟨x1,h2,x3,h4,x5,h6,x7,h8,q⟩:=b4 q;refine gE 11 mixed<|dP [0] O (oM O)<|dP [14] O (oC (nx h2) O)<|dP [3] O (ae O kv)<|dP [16] O (oC (jU h4) O)<|dP [0] O (oM O)<|dP [18] O (pW JN (aT O))<|dP [19] O (df (aT O) aI)<|dP [20] O (oC (sj h6) O)<|dP [15,17,21] O (bS sJ uW O O)<|dP [22] O (oC (iJ h8) O)<|dP [23] O (oA O)<|dN<|dE [0,3,6] O (by kernel_rfl)<|cD<|rS<|cM<|cP (da (aT O) aI)<|ak 33554505 O<|gc O q (fun N0 q=>?_) fun N0 q=>?_
 ·refine rS<|cM<|cP (ba eh 30 2)<|cA<|ak 48 O ?_
  cases q;exact an (fi (ij (t:=4) O) (fX O O (bu.tmp O O (bu.tmp O O bu.nil))))
 ·refine aj (aw ?_);obtain⟨dz,jv,q⟩:=ab q;refine rS<|cU O kv<|cC (o0 jv) O<|cT xK<|cs O O O CG<|ak 129 O<|rS<|cP (ba aR 89 8)<|ak 385 O<|ah ?_
  obtain⟨fp,kU,q⟩:=ab q;refine rS<|cM<|cC (Dd kU) O<|cJ ky O<|cN<|ak 7516193152 O<|ai<|jj [7,30,31] O (σ:=(ard (Rat×Rat))×Int) (fun Dr=>[(8,.buf 89 8 (lT aR Dr.1)),(32,.val (TiZ Dr.2))]) q O (fun k15 Dr q=>?_)
  refine rS<|cL O O<|ak 16106127744 O<|ah<|gc O q (fun Gr q=>?_) fun Gr q=>?_
  ·refine aj<|aw<|ah<|ai ?_
   obtain⟨iP,T,q⟩:=ab q;refine rS<|cP (oX uw (dI O) O O T)<|cR O g<|cT bY<|cs O O O g<|ak 7516194176 O ?_
   obtain⟨ju,Z,kQ,wb,q⟩:=b2 q;refine rK<|cQ<|cU O CG<|cU O g<|cC (ox Z) O<|cP (bS xL WA O O)<|cS (dp rD Sg (dI O) O O (aT O) wb (bU O))<|cS (bt O O (bU O) _ (Or.inl O))<|ak 7516193152 O (aw ?_)
   obtain⟨kP,wP,q⟩:=ab q;exact rK<|cH O wP<|cO (oM O)<|ak 7516193152 O (cm q O)
  ·refine aN<|aw<|rS<|cP (ba eh 30 2)<|ak 2304 O<|ah ?_
   obtain⟨nZ,Ba,q⟩:=ab q;refine rS<|cQ<|cS (jK (s':= .gone) (xs:=[]) (ys:=[]) (SO Ba) (dZ.same O) O O O aJ.nil aJ.nil (bU O) O)<|cJ rD O<|cN<|cF [11,44,45,46] O<|ai<|jj [44,45] O (σ:=(ard (adx×adx))×Int) (fun Dq=>[(11,.buf 30 2 (lT eh Dq.1)),(46,.val (TiZ Dq.2))]) q O (fun XD Dq q=>?_)
   refine rS<|cL O O<|cF [11,44,45,46,47] O<|ah<|gc O q (fun R1 q=>?_) fun R1 q=>?_
   ·refine aj<|aw<|ah<|ai ?_
    obtain⟨qE,CO,q⟩:=ab q;refine rS<|cP (oX Jm (dI O) O O CO)<|cR O kc<|cT xL<|cs O O O kc<|cF [11,13,44,45,46] O<|ah ?_
    obtain⟨qf,JW,q⟩:=ab q;refine rS<|cU O kc<|cC (nz JW) O<|ak 2374945116006400 O<|gc O q (fun acv q=>?_) fun acv q=>?_
    ·refine rS<|cP (ba eh 30 2)<|cI<|ak 48 O ?_
     cases q;exact an (fi (ij (t:=4) O) (fX O O (bu.tmp O O (bu.tmp O O bu.nil))))
    ·refine aj (aw ?_);obtain⟨sK,Gt,xc,JV,q⟩:=b2 q;refine rK<|cQ<|cU O kc<|cC (kg Gt) O<|cP (bS nY amg O O)<|cS (dp Gk amm (dI O) O O (aT O) JV (bU O))<|cS (bt O O (bU O) _ (Or.inl O))<|cF [11,44,45,46] O (aw ?_)
     obtain⟨sf,Gs,q⟩:=ab q;exact rK<|cH O Gs<|cO (oM O)<|cF [11,44,45,46] O (cm q O)
   ·refine aN<|aw<|rS<|cQ<|cG (ij (t:=11) O)<|cG (jL (s:=58) O O)<|cA<|cI<|ak 48 O ?_
    cases q;exact an (r2 O)
def CJ{a0 a1 r}(q:ui a0 a1=some r):al prog 74 [(TL eh) a0,(Fj prog (fun(x:(adx×adx))=>[eh x]) (fun(x:Int)=>[TiZ x])) a1] (.vs [TiZ r]):=by
 refine c7 func74 O ntmps74 (by kernel_rfl) fun w0 H0=>rS<|cI<|ak 3 O<|ah<|rS<|cM<|cJ Gk O<|cN<|ak 1794 O<|ai<|jj [1,8,9] O (σ:=Int) (fun s1=>[(10,.val (TiZ s1))]) q O (fun k2 s1 q=>?_)
 refine rS<|cL O O<|ak 3842 O<|ah<|gc O q (fun hb3 q=>?_) fun hb3 q=>?_
 ·refine aj<|aw<|ah<|ai ?_
  obtain⟨x4,h5,q⟩:=ab q;refine rS<|cP (oX W8 (dI O) O O h5)<|cR O px<|cT nY<|cs O O O px<|ak 1858 O ?_
  obtain⟨x6,h7,q⟩:=ab q;refine rS<|cM<|cU O px<|cP (qQ O h7 (aJ.cons (aT O) aJ.nil))<|cA<|ak 1922 O<|rS<|cM<|cP (da (aT O) aI)<|ak 264066 O<|gc O q (fun Y q=>?_) fun Y q=>?_
  ·refine rS<|cM<|cA<|cF [4] O ?_
   cases q;exact an (r1 O)
  ·refine aj (aw ?_);obtain⟨x9,kG,q⟩:=ab q;exact rK<|cH O kG<|cO (oM O)<|ak 1794 O (cm q O)
 ·refine aN<|aw<|rS<|cI<|cF [4] O ?_
  cases q;exact an (r1 O)
def O7{a0 r}(q:FO a0=some r):al prog 75 [eh a0] (.vs [TiZ r]):=by
 refine c7 func75 O ntmps75 (by kernel_rfl) fun w0 H0=>rS<|cX<|cI<|ak 2 O ?_
 obtain⟨x1,h2,x3,h4,x5,h6,q⟩:=b3 q;refine gE 9 mixed<|dP [1] O (iO O ni O)<|dP [3,1] O (oP 0 O O X)<|dP [4] O (oC (qK h2) O)<|dP [1] O (iO O ni O)<|dP [6,1] O (oP 1 O O X)<|dP [7] O (oC (qK h4) O)<|dP [5,8] O (bS sJ uW O O)<|dP [9] O (oC (iJ h6) O)<|dP [10] O (oA O)<|dN<|dE [2] O (by kernel_rfl)<|cD ?_
 cases q;exact an (r1 O)
def SQ{a0 r}(q:Kt a0=some r):al prog 23 [(TL eh) a0] (.vs [TS r.1,TiZ r.2]):=by
 refine c7 func23 O ntmps23 (by kernel_rfl) fun w0 H0=>rS<|cP (aA (Arg.s O))<|cI<|ak 1 O<|ah<|rS<|cM<|cJ Gk O<|cP (cq (aT O) aI)<|ak 2049 O<|gc O q (fun hb1 q=>?_) fun hb1 q=>?_
 ·refine rS<|cP (aA (Arg.s O))<|cI<|ak 12 O ?_
  cases q;exact an (r2 O)
 ·refine aj<|aw<|ah ?_
  obtain⟨x2,h3,q⟩:=ab q;refine rS<|cM<|cP (fL (CJ h3) (aJ.cons (aT O) (aJ.cons (Arg.fn fun _ _ h=>O7 (D:=DR.strict) h) aJ.nil)))<|cA<|ak 17 O<|rS<|cM<|cP (da (aT O) aI)<|ak 32785 O<|gc O q (fun Lf q=>?_) fun Lf q=>?_
  ·refine rS<|cM<|cP (aA (Arg.s O))<|cA<|ak 12 O ?_
   cases q;exact an (r2 O)
  ·refine aj<|aw<|ah<|rS<|cM<|cJ Gk O<|cP (eC (aT O) aI)<|cF [0,19] O<|gc O q (fun CN q=>?_) fun CN q=>?_
   ·refine rS<|cP (aA (Arg.s O))<|cI<|ak 12 O ?_
    cases q;exact an (r2 O)
   ·refine aj (aw ?_);obtain⟨x6,h7,q⟩:=ab q;refine rS<|cC (Lq h7) O<|cT V<|cs O O O d<|ak 33 O<|ah<|rS<|cM<|cJ Gk O<|cN<|ak 14680097 O<|ai<|jj [0,21,22] O (σ:=Rat×Int) (fun s8=>[(5,.own 87 (aX s8.1)),(23,.val (TiZ s8.2))]) q O (fun k9 s8 q=>?_)
    refine rS<|cL O O<|ak 31457313 O<|ah<|gc O q (fun wO q=>?_) fun wO q=>?_
    ·refine aj<|aw<|ah<|ai ?_
     obtain⟨iM,qC,q⟩:=ab q;refine rS<|cM<|cP (oX W8 (dI O) O O qC)<|cR O px<|cT nY<|cA<|cs O O O px<|ak 14680289 O ?_
     obtain⟨iW,nJ,kd,S,iP,T,q⟩:=b3 q;refine rS<|cM<|cM<|cH O nJ<|cM<|cJ Gk O<|cP (mQ (aT O) (aT O) S)<|cP (oX W8 (dI O) O O T)<|cR O px<|cT nY<|cs O O O px<|ak 14680481 O ?_
     obtain⟨ju,Z,kQ,wb,kP,wP,nZ,Ba,oN,CP,Ax,IM,q⟩:=b6 q;obtain⟨vH,Fh,xd,Gu,q⟩:=b2 q;refine gD 18 mixed<|dP [5] O (ae O d)<|dP [7] O (iO O ni O)<|dP [37,7] O (oP 0 O O X)<|dP [38] O (oC (jT Z) O)<|dP [8] O (iO O ni O)<|dP [40,8] O (oP 1 O O X)<|dP [41] O (oC (jT wb) O)<|dP [39,42] O (oC (kh wP) O)<|dP [36,43] O (oC (Dj Ba) O)<|dP [8] O (iO O ni O)<|dP [45,8] O (oP 0 O O X)<|dP [46] O (oC (jT CP) O)<|dP [7] O (iO O ni O)<|dP [48,7] O (oP 1 O O X)<|dP [49] O (oC (jT IM) O)<|dP [47,50] O (oC (kh Fh) O)<|dP [44,51] O (oC (vL Gu) O)<|dS [5,52] O (ds O O O d)<|dN<|dE [0,5,21,22,23] O (by kernel_rfl)<|cD (aw ?_)
     obtain⟨sK,Gt,q⟩:=ab q;exact rK<|cH O Gt<|cO (oM O)<|ak 14680097 O (cm q O)
    ·refine aN (aw ?_);obtain⟨xc,JV,sf,Gs,AF,Li,q⟩:=b3 q;refine gE 8 mixed<|dP [5] O (ae O d)<|dP [] O (oC (Lq JV) O)<|dP [54,55] O (oC (Di Gs) O)<|dP [56] O (oC (Dc Li) O)<|dP [57] O (dW O O)<|dP [57] O (dW O O)<|dP [58] O (oA O)<|dP [59] O (oA O)<|dN<|dE [2,3] O (by kernel_rfl)<|cD ?_
     cases q;exact an (r2 O)
def ql{a0 a1 r}(q:kK a0 a1=some r):al prog 247 [(TL aX) a0,(Fj prog (fun(x:Rat)=>[aX x]) (fun(x:Bool)=>[aY x])) a1] (.vs [TiZ r]):=by
 refine c7 func247 O ntmps247 (by kernel_rfl) fun w0 H0=>rS<|cI<|ak 3 O<|ah<|rS<|cM<|cJ mr O<|cN<|ak 387 O<|ai<|jj [0,1,7] O (σ:=Int) (fun s1=>[(8,.val (TiZ s1))]) q O (fun k2 s1 q=>?_)
 refine rS<|cL O O<|ak 899 O<|ah<|gc O q (fun hb3 q=>?_) fun hb3 q=>?_
 ·refine aj<|aw<|ah<|ai<|rS<|cM<|cA<|ak 419 O ?_
  obtain⟨x4,h5,x6,h7,q⟩:=b2 q;refine rS<|cM<|cM<|cM<|cP (oX Dm (dI O) O O h5)<|cR O d<|cP (qQ O h7 (aJ.cons (aT O) aJ.nil))<|ak 65955 O<|gc O q (fun Y q=>?_) fun Y q=>?_
  ·refine rS<|cM<|cA<|cF [4] O ?_
   cases q;exact an (r1 O)
  ·refine aj (aw ?_);obtain⟨x9,kG,q⟩:=ab q;exact rK<|cH O kG<|cO (oM O)<|ak 387 O (cm q O)
 ·refine aN<|aw<|rS<|cI<|cF [4] O ?_
  cases q;exact an (r1 O)
def oQ{a0 a1 r}(q:j2 a0 a1=some r):al prog 161 [(TL aX) a0,(Fj prog (fun(x:Rat)=>[aX x]) (fun(x:Bool)=>[aY x])) a1] (.vs [aY r]):=by
 refine c7 func161 O ntmps161 (by kernel_rfl) fun w0 H0=>rS<|cB<|ak 3 O ?_
 obtain⟨x1,h2,q⟩:=ab q;refine rS<|cM<|cM<|cC (ql h2) O<|cP (jG (aT O) aI)<|cA<|cF [4] O ?_
 cases q;exact an (r1 O)
def SM{a0 r}(q:Kq a0=some r):al prog 162 [(TL aX) a0] (.vs [(TL TS) r]):=by
 refine c7 func162 O ntmps162 (by kernel_rfl) fun w0 H0=>?_
 refine rS<|cP (ba TS 22 1)<|ak 1 O ?_
 obtain⟨x1,h2,q⟩:=ab q;refine rS<|cM<|cJ mr O<|cP (FH TS ank QA O (aT O) (aT O) h2)<|cS (bt O O (bU O) _ (Or.inl O))<|ak 9 O ?_
 refine ah<|rS<|cM<|cJ mr O<|cN<|ak 3592 O ?_
 refine ai<|jj [9,10] O (σ:=(ard adx)×Int) (fun s3=>[(3,.buf 22 1 (lT TS s3.1)),(11,.val (TiZ s3.2))]) q O (fun k4 s3 q=>?_)
 refine rS<|cL O O<|ak 7688 O ?_
 refine ah<|gc O q (fun CN q=>?_) fun CN q=>?_
 ·refine aj<|aw<|ah<|ai ?_
  obtain⟨x6,h7,q⟩:=ab q;refine rS<|cM<|cP (oX Dm (dI O) O O h7)<|cR O d<|cT V<|cA<|cs O O O d<|ak 3640 O ?_
  obtain⟨x8,h9,dz,jv,fp,kU,q⟩:=b3 q;refine rK<|cQ<|cM<|cU O d<|cC (iI h9) O<|cP (dK PQ O O (aT O) jv)<|cS (o8 (f:=TS) (fun _=>O) O O (bF kU) (aT O) X)<|ak 3592 O (aw ?_)
  obtain⟨gp,mu,q⟩:=ab q;exact rK<|cH O mu<|cO (oM O)<|ak 3592 O (cm q O)
 ·refine aN<|aw<|rS<|cQ<|cG (ij (t:=3) O)<|cG (jL (s:=22) O O)<|cA<|ak 4 O ?_
  cases q;exact an (r1 O)
def MR{a0 r}(q:DL a0=some r):al prog 81 [(TL aX) a0] (.vs [(TL TS) r.1,TiZ r.2]):=by
 refine c7 func81 O ntmps81 (by kernel_rfl) fun w0 H0=>rS<|cP (aA (Arg.nn (f:=TS)))<|cI<|ak 1 O<|ah ?_
 obtain⟨x1,h2,q⟩:=ab q;refine rS<|cM<|cP (fL (oQ h2) (aJ.cons (aT O) (aJ.cons (Arg.fn fun _ _ h=>iR (D:=DR.strict) h) aJ.nil)))<|ak 33 O<|gc O q (fun hb3 q=>?_) fun hb3 q=>?_
 ·refine rS<|cP (aA (Arg.nn (f:=TS)))<|cI<|ak 12 O ?_
  cases q;exact an (fi (US (t:=2) O) (fX O O (bu.tmp O O (bu.tmp O O bu.nil))))
 ·refine aj (aw ?_);obtain⟨x4,h5,q⟩:=ab q;refine rS<|cM<|cC (SM h5) O<|cA<|cI<|ak 12 O ?_
  cases q;exact an (r2 O)
def QR{a0 a1 r}(q:Ih a0 a1=some r):al prog 24 [(TL (TL bz)) a0,aW a1] (.vs [(TL TS) r.1,TiZ r.2]):=by
 refine c7 func24 O ntmps24 (by kernel_rfl) fun w0 H0=>rS<|cX<|cP (aA (Arg.nn (f:=TS)))<|cI<|ak 9 O<|ah ?_
 obtain⟨x1,h2,x3,h4,x5,h6,q⟩:=b3 q;refine gE 7 mixed<|dP [0] O (oM O)<|dP [12] O (oC (nx h2) O)<|dP [3] O (ae O B)<|dP [14] O (oC (jS h4) O)<|dP [13,15] O (bS sJ uW O O)<|dP [16] O (oC (iJ h6) O)<|dP [17] O (oA O)<|dN<|dE [0,3,6] O (by kernel_rfl)<|cD<|rS<|cM<|cP (da (aT O) aI)<|ak 524361 O<|gc O q (fun A9 q=>?_) fun A9 q=>?_
 ·refine rS<|cM<|cP (aA (Arg.nn (f:=TS)))<|cA<|ak 48 O ?_
  cases q;exact an (fi (US (t:=4) O) (fX O O (bu.tmp O O (bu.tmp O O bu.nil))))
 ·refine aj (aw ?_);obtain⟨x8,h9,q⟩:=ab q;refine rS<|cU O B<|cC (gT h9) O<|cT bY<|cs O O O g<|ak 129 O<|ah ?_
  obtain⟨dz,jv,fp,kU,gp,mu,gS,Q,q⟩:=b4 q;refine rS<|cU O g<|cC (ln jv) O<|cC (sj kU) O<|cM<|cJ JN O<|cP (df (aT O) aI)<|cC (sj mu) O<|cP (bS sJ uW O O)<|cC (iJ Q) O<|cA<|ak 385 O<|rS<|cM<|cP (da (aT O) aI)<|cF [0,7,8,33] O<|gc O q (fun ZP q=>?_) fun ZP q=>?_
  ·refine rS<|cM<|cP (aA (Arg.nn (f:=TS)))<|cA<|ak 48 O ?_
   cases q;exact an (fi (US (t:=4) O) (fX O O (bu.tmp O O (bu.tmp O O bu.nil))))
  ·refine aj<|aw<|rS<|cP (ba aX 87 4)<|ak 641 O<|ah ?_
   obtain⟨ju,Z,q⟩:=ab q;refine rS<|cM<|cC (Dd Z) O<|cJ ky O<|cN<|ak 481036337792 O<|ai<|jj [7,36,37] O (σ:=ard Rat×Int) (fun xl=>[(9,.buf 87 4 (lT aX xl.1)),(38,.val (TiZ xl.2))]) q O (fun Sq xl q=>?_)
   refine rS<|cL O O<|ak 1030792151680 O<|ah<|gc O q (fun N2 q=>?_) fun N2 q=>?_
   ·refine aj<|aw<|ah<|ai ?_
    obtain⟨sE,Gv,q⟩:=ab q;refine rS<|cP (oX uw (dI O) O O Gv)<|cR O g<|cT bY<|cs O O O g<|ak 481036339840 O ?_
    obtain⟨yY,JX,oY,Fi,q⟩:=b2 q;refine rK<|cQ<|cU O g<|cU O g<|cC (l9 JX) O<|cP (bS V Av O O)<|cS (dp mr Aw (dI O) O O (aT O) Fi (bU O))<|cS (bt O O (bU O) _ (Or.inl O))<|ak 481036337792 O (aw ?_)
    obtain⟨qE,CO,q⟩:=ab q;exact rK<|cH O CO<|cO (oM O)<|ak 481036337792 O (cm q O)
   ·refine aN (aw ?_);obtain⟨qf,JW,q⟩:=ab q;refine rS<|cQ<|cS (jK (xs:=[]) (ys:=[.func 80]) (Td JW) (dZ.same O) O O O aJ.nil (aJ.cons (Arg.fn fun _ _ h=>qN (D:=DR.strict) h) aJ.nil) (bU O) O)<|cF [9] O ?_
    obtain⟨yX,N6,uj,R5,q⟩:=b2 q;refine rS<|cQ<|cS (Jk (Kk N6) O O (aJ.cons (Arg.fn fun _ _ h=>Vg (D:=DR.strict) h) aJ.nil) (bU O))<|cC (MR R5) O<|cE<|cE<|cA<|cA<|ak 48 O ?_
    cases q;exact an (r2 O)
def E7{a0 a1 r}(q:w6 a0 a1=some r):al prog 163 [(TL TS) a0,(Fj prog (fun(x:adx)=>[TS x]) (fun(x:Int)=>[TiZ x])) a1] (.vs [TiZ r]):=by
 refine c7 func163 O ntmps163 (by kernel_rfl) fun w0 H0=>rS<|cI<|ak 3 O<|ah<|rS<|cM<|cJ JM O<|cN<|ak 1794 O<|ai<|jj [1,8,9] O (σ:=Int) (fun s1=>[(10,.val (TiZ s1))]) q O (fun k2 s1 q=>?_)
 refine rS<|cL O O<|ak 3842 O<|ah<|gc O q (fun hb3 q=>?_) fun hb3 q=>?_
 ·refine aj<|aw<|ah<|ai ?_
  obtain⟨x4,h5,q⟩:=ab q;refine rS<|cP (oX PQ (dI O) O O h5)<|cR O X<|cA<|ak 1858 O ?_
  obtain⟨x6,h7,q⟩:=ab q;refine rS<|cM<|cM<|cP (qQ O h7 (aJ.cons (aT O) aJ.nil))<|cA<|ak 1922 O<|rS<|cM<|cP (da (aT O) aI)<|ak 264066 O<|gc O q (fun Y q=>?_) fun Y q=>?_
  ·refine rS<|cM<|cA<|cF [4] O ?_
   cases q;exact an (r1 O)
  ·refine aj (aw ?_);obtain⟨x9,kG,q⟩:=ab q;exact rK<|cH O kG<|cO (oM O)<|ak 1794 O (cm q O)
 ·refine aN<|aw<|rS<|cI<|cF [4] O ?_
  cases q;exact an (r1 O)
def J8{a0 r}(q:DK a0=some r):al prog 164 [gn a0] (.vs [gJ r]):=by
 refine c7 func164 O ntmps164 (by kernel_rfl) fun w0 H0=>rS<|cX<|cT AB<|ak 6 O ?_
 obtain⟨x1,h2,x3,h4,x5,h6,x7,h8,q⟩:=b4 q;refine gE 22 mixed<|dP [1] O (a8 O ES)<|dP [3,1] O (cg O ni aI (by decide) (by decide))<|dP [4,1] O (b9 O O (aP.trans (aP.agg (i:=0) O O) O (aP.agg (i:=0) O O)) X)<|dP [5] O (oC (jT h2) O)<|dP [1] O (a8 O ES)<|dP [7,1] O (cg O ni aI (by decide) (by decide))<|dP [8,1] O (b9 O O (aP.trans (aP.agg (i:=0) O O) O (aP.agg (i:=1) O O)) X)<|dP [9] O (oC (jT h4) O)<|dP [6,10] O (bA Ed mO O O)<|dP [1] O (a8 O ER)<|dP [12,1] O (cg O ni aI (by decide) (by decide))<|dP [13,1] O (b9 O O (aP.trans (aP.agg (i:=1) O O) O (aP.agg (i:=0) O O)) X)<|dP [14] O (oC (jT h6) O)<|dP [1] O (a8 O ER)<|dP [16,1] O (cg O ni aI (by decide) (by decide))<|dP [17,1] O (b9 O O (aP.trans (aP.agg (i:=1) O O) O (aP.agg (i:=1) O O)) X)<|dP [18] O (oC (jT h8) O)<|dP [15,19] O (bA Ed mO O O)<|dQ 2 O X3 O xD<|dP [11,20,22] O (bB Mp QZ O)<|dS [2,23] O (ds O O O JK)<|dN<|dE [2] O (by kernel_rfl)<|cD ?_
 cases q;exact an (q1 O JK)
def Hf{a0 r}(q:zt a0=some r):al prog 84 [(TL gn) a0] (.vs [TiZ r]):=by
 refine c7 func84 O ntmps84 (by kernel_rfl) fun w0 H0=>rS<|cI<|ak 1 O<|ah<|rS<|cM<|cJ Gl O<|cP (cq (aT O) aI)<|ak 513 O<|gc O q (fun hb1 q=>?_) fun hb1 q=>?_
 ·refine rS<|cI<|ak 4 O ?_
  cases q;exact an (r1 O)
 ·refine aj<|aw<|ah<|rS<|cM<|cJ Gl O<|cN<|ak 7169 O<|ai<|jj [0,10,11] O (σ:=Int) (fun s2=>[(12,.val (TiZ s2))]) q O (fun k3 s2 q=>?_)
  refine rS<|cL O O<|ak 15361 O<|ah<|gc O q (fun Lf q=>?_) fun Lf q=>?_
  ·refine aj<|aw<|ah<|ai ?_
   obtain⟨x5,h6,q⟩:=ab q;refine rS<|cM<|cP (oX S5 (dI O) O O h6)<|cR O FQ<|cT FW<|cA<|cs O O O FQ<|ak 7193 O<|ah ?_
   obtain⟨x7,h8,q⟩:=ab q;refine rS<|cK O ES<|cP (cg O ni aI (by decide) (by decide))<|cP (b9 O O (aP.trans (aP.agg (i:=0) O O) O (aP.agg (i:=0) O O)) X)<|cK O ES<|cP (cg O ni aI (by decide) (by decide))<|cP (b9 O O (aP.trans (aP.agg (i:=0) O O) O (aP.agg (i:=1) O O)) X)<|cK O ER<|cP (cg O ni aI (by decide) (by decide))<|cP (b9 O O (aP.trans (aP.agg (i:=1) O O) O (aP.agg (i:=0) O O)) X)<|cK O ER<|cP (cg O ni aI (by decide) (by decide))<|cP (b9 O O (aP.trans (aP.agg (i:=1) O O) O (aP.agg (i:=1) O O)) X)<|cP (bS QA adi O O)<|cP (fL (E7 h8) (aJ.cons (aT O) (aJ.cons (Arg.fn fun _ _ h=>qK (D:=DR.strict) h) aJ.nil)))<|cA<|ak 7225 O ?_
   refine rS<|cM<|cP (da (aT O) aI)<|ak 4294974521 O<|gc O q (fun N0 q=>?_) fun N0 q=>?_
   ·refine rS<|cM<|cA<|ak 4 O ?_
    cases q;exact an (r1 O)
   ·refine aj (aw ?_);obtain⟨dz,jv,q⟩:=ab q;refine rS<|cU O FQ<|cC (J8 jv) O<|cT AB<|cs O O O JK<|ak 7241 O ?_
    obtain⟨fp,kU,q⟩:=ab q;obtain⟨gp,mu,q⟩:=aH q;obtain⟨gS,Q,q⟩:=aH q;obtain⟨iZ,qi,q⟩:=aH q;obtain⟨kR,h21,q⟩:=aH q;refine gE 21 mixed<|dQ 0 O D4 O kc<|dQ 1 O D3 O kc<|dP [37,39] O (oC (j7 kU) O)<|dP [40] O (jG (aT O) aI)<|dP [41] O (oM O)<|dV [3,42] O O O (ov 3 O on) (fun rW=>oM O)<|dV [42,43] O O O (oo 43 O id on) (fun hg2=>cq (aT O) aI)<|dV [42,44] O O O (oo 44 O id on) (fun P=>oM O)<|dO [0,45] O O O (ov 0 O on) (fun wk=>oM O)<|dO [3,45] O O O (ov 3 O on) (fun Az=>oM O)<|dO [45,47] O O O (oo 47 O id on) (fun CL=>bn (aT O) aI (mu CL))<|dO [45,46,48] O O O (oo 46 O id (oo 48 O id on)) (fun JQ=>kS S5 (dI O) (aT O) (aT O) (Q JQ))<|dO [45,49] O O O (oo 49 O id on) (fun OQ=>aU (aT O) FQ)<|dO [45,50] O O O (oo 50 O id on) (fun Pn=>oC (J8 (qi Pn)) O)<|dO [6,45] O O O (ov 6 O on) (fun Ff=>ae O JK)<|dO [45,51,52] O O O (oo 51 O id (oo 52 O id on)) (fun Le=>oC (wX (h21 Le)) O)<|dO [45,53] O O O (oo 53 O id on) (fun Fe=>jG (aT O) aI)<|dV [42,45,54] O O O (oo 45 O id (ov 54 O on)) (fun Ld=>dh (aT O) O (fun h=>D9 (id Ld) (je h)))<|dP [42,55] O (fO (aT O) O jY)<|dN<|dE [0,10,11,12,56] O (by kernel_rfl)<|cD ?_
    refine gc O q (fun R3 q=>?_) fun R3 q=>?_
    ·refine rS<|cI<|ak 4 O ?_
     cases q;exact an (r1 O)
    ·refine aj (aw ?_);obtain⟨kP,wP,q⟩:=ab q;exact rK<|cH O wP<|cO (oM O)<|ak 7169 O (cm q O)
  ·refine aN<|aw<|rS<|cI<|ak 4 O ?_
   cases q;exact an (r1 O)
def QN[OI]{a0 r}(q:Ib a0=some r):al prog 25 [(TL gn) a0] (.vs [TS r.1,TiZ r.2]):=by
 refine c7 func25 O ntmps25 (by kernel_rfl) fun w0 H0=>rS<|cP (aA (Arg.s O))<|cI<|ak 1 O<|ah ?_
 obtain⟨x1,h2,q⟩:=ab q;refine rS<|cM<|cC (Hf h2) O<|cA<|ak 17 O<|rS<|cM<|cP (da (aT O) aI)<|ak 4113 O<|gc O q (fun hb3 q=>?_) fun hb3 q=>?_
 ·refine rS<|cM<|cP (aA (Arg.s O))<|cA<|ak 12 O ?_
  cases q;exact an (r2 O)
 ·refine aj<|aw<|rS<|cP (Ko (E:=5) WI)<|ak 33 O<|ah<|rS<|cM<|cJ Gl O<|cN<|ak 114720 O<|ai<|jj [14,15] O (σ:=adx×Int) (fun s4=>[(5,.GO 156 5 (lB s4.1)),(16,.val (TiZ s4.2))]) q O (fun k5 s4 q=>?_)
  refine rS<|cL O O<|ak 245792 O<|ah<|gc O q (fun Pp q=>?_) fun Pp q=>?_
  ·refine aj<|aw<|ah<|ai ?_
   obtain⟨x7,h8,q⟩:=ab q;refine rS<|cP (oX S5 (dI O) O O h8)<|cR O FQ<|cT FW<|cs O O O FQ<|ak 114848 O<|rS<|cP (aA (Arg.s O))<|ak 115104 O<|ah<|rS<|jg 2 O X3 O xD<|ak 2212256 O<|uU [5,7,14,15,16] O (α:=adx) (fun s9=>[(8,.val (TS s9))]) q (fun OM q=>?_) (fun s9 q=>?_)
   ·refine gc O q (fun JU q=>?_) fun JU q=>?_
    ·exact rK<|cO (aA (Arg.s O))<|ak 115104 O (cm q O)
    ·exact aj (cm q O)
   ·refine aw ?_;obtain⟨fp,kU,gp,mu,gS,Q,q⟩:=b3 q;refine rK<|cM<|cK O ES<|cP (cg O ni aI (by decide) (by decide))<|cP (b9 O O (aP.trans (aP.agg (i:=0) O O) O (aP.agg (i:=0) O O)) X)<|cK O ES<|cP (cg O ni aI (by decide) (by decide))<|cP (b9 O O (aP.trans (aP.agg (i:=0) O O) O (aP.agg (i:=1) O O)) X)<|cK O ER<|cP (cg O ni aI (by decide) (by decide))<|cP (b9 O O (aP.trans (aP.agg (i:=1) O O) O (aP.agg (i:=0) O O)) X)<|cK O ER<|cP (cg O ni aI (by decide) (by decide))<|cP (b9 O O (aP.trans (aP.agg (i:=1) O O) O (aP.agg (i:=1) O O)) X)<|cP (bS af6 adk O O)<|cP (fL (aho kU) (aJ.cons (aT O) (aJ.cons (Arg.s O) aJ.nil)))<|cP (pY (aT O) (Arg.s O) mu)<|cS (jK (xs:=[]) (ys:=[.tmp 37]) (Nh Q) dZ.own O O O aJ.nil (aJ.cons (aT O) aJ.nil) (bU O) O)<|ak 114720 O (aw ?_)
    obtain⟨iZ,qi,q⟩:=ab q;exact rK<|cH O qi<|cO (oM O)<|ak 114720 O (cm q O)
  ·refine aN<|aw<|ah ?_
   obtain⟨kR,h21,q⟩:=ab q;refine rS<|cS (jK (xs:=[]) (ys:=[]) (ahm h21) dZ.own O O O aJ.nil aJ.nil (bU O) O)<|cP (cq (aT O) aI)<|cF [5,41] O<|gc O q (fun R3 q=>?_) fun R3 q=>?_
   ·refine rS<|cP (aA (Arg.s O))<|cI<|ak 12 O ?_
    cases q;exact an (r2 O)
   ·refine aj (aw ?_);obtain⟨kP,wP,q⟩:=ab q;refine rS<|cS (jK (s':= .gone) (xs:=[]) (ys:=[]) (PR wP) dZ.own O O O aJ.nil aJ.nil (bU O) O)<|cA<|cI<|ak 12 O ?_
    cases q;exact an (r2 O)
def O6{a0 a1 a2 r}(q:FN a0 a1 a2=some r):al prog 26 [(TL (TL (TL bz))) a0,cz a1,aW a2] (.vs [aY r.1,TiZ r.2]):=by
 refine c7 func26 O ntmps26 (by kernel_rfl) fun w0 H0=>rS<|cX<|cX<|cB<|cI<|ak 49 O<|ah ?_
 obtain⟨x1,h2,x3,h4,x5,h6,x7,h8,q⟩:=b4 q;refine gE 9 mixed<|dP [0] O (oM O)<|dP [9] O (oC (xO h2) O)<|dP [4] O (ae O kv)<|dP [11] O (oC (jU h4) O)<|dP [5] O (ae O B)<|dP [13] O (oC (jS h6) O)<|dP [10,12,14] O (bS sJ uW O O)<|dP [15] O (oC (iJ h8) O)<|dP [16] O (oA O)<|dN<|dE [0,4,5,8] O (by kernel_rfl)<|cD<|rS<|cM<|cP (da (aT O) aI)<|ak 262449 O<|gc O q (fun N0 q=>?_) fun N0 q=>?_
 ·refine rS<|cM<|cB<|cA<|ak 192 O ?_
  cases q;exact an (r2 O)
 ·refine aj (aw ?_);obtain⟨dz,jv,fp,kU,gp,mu,gS,Q,q⟩:=b4 q;refine gE 10 mixed<|dP [0] O (oM O)<|dP [20] O (oC (Fx jv) O)<|dP [5] O (ae O B)<|dP [22] O (oC (gT kU) O)<|dP [4] O (ae O kv)<|dP [24] O (oC (o0 mu) O)<|dP [25] O (BD acR g O (aT O) (aP.agg (i:=3) O O))<|dP [21,23,26] O (oC (FA Q) O)<|dP [27] O (oA O)<|dP [] O (aA aI)<|dN<|dE [6,7] O (by kernel_rfl)<|cD ?_
  cases q;exact an (r2 O)
def GX{a0 r}(q:zk a0=some r):al prog 172 [(TL aW) a0] (.vs [TiZ r]):=by
 refine c7 func172 O ntmps172 (by kernel_rfl) fun w0 H0=>rS<|cI<|ak 1 O<|ah<|rS<|cM<|cJ As O<|cN<|ak 448 O<|ai<|jj [6,7] O (σ:=Int) (fun s1=>[(8,.val (TiZ s1))]) q O (fun k2 s1 q=>?_)
 refine rS<|cL O O<|ak 960 O<|ah<|gc O q (fun hb3 q=>?_) fun hb3 q=>?_
 ·refine aj<|aw<|ah<|ai ?_
  obtain⟨x4,h5,q⟩:=ab q;refine rS<|cP (oX Hs (dI O) O O h5)<|cR O B<|cT jR<|cs O O O B<|ak 464 O ?_
  obtain⟨x6,h7,q⟩:=ab q;refine rS<|cU O B<|cC (jS h7) O<|cA<|ak 480 O<|rS<|cM<|cP (da (aT O) aI)<|ak 33248 O<|gc O q (fun Y q=>?_) fun Y q=>?_
  ·refine rS<|cM<|cA<|ak 4 O ?_
   cases q;exact an (r1 O)
  ·refine aj (aw ?_);obtain⟨x9,kG,q⟩:=ab q;exact rK<|cH O kG<|cO (oM O)<|ak 448 O (cm q O)
 ·refine aN<|aw<|rS<|cI<|ak 4 O ?_
  cases q;exact an (r1 O)
def Ct{a0 r}(q:wz a0=some r):al prog 93 [zO a0] (.vs [pJ r]):=by
 refine c7 func93 O ntmps93 (by kernel_rfl) fun w0 H0=>rS<|cX<|cT I9<|ak 6 O ?_
 obtain⟨x1,h2,x3,h4,x5,h6,x7,h8,q⟩:=b4 q;refine gE 14 mixed<|dQ 0 O X7 O B<|dP [4] O (oC (gT h2) O)<|dQ 1 O X6 O B<|dP [7] O (oC (gT h4) O)<|dQ 2 O X5 O B<|dP [10] O (oC (gT h6) O)<|dQ 3 O X4 O B<|dP [13] O (oC (gT h8) O)<|dP [5,8,11,14] O (bB aaB aer O)<|dS [2,15] O (ds O O O DQ)<|dN<|dE [2] O (by kernel_rfl)<|cD ?_
 cases q;exact an (q1 O DQ)
def Mw{c0:V3×V3×V3×V3}{L:ard (V3)}(ho:Lp c0=some L):yR prog 251 [nm (pJ c0)] (fun(x:V3)=>[ar x]) L:=by
 refine Cc (N:=20) func251 O ntmps251 (by simp) ai8 fun{σ ρ} Bd K u r q l J Jx w H0 I hJ hI hy=>?_
 replace q:=Q2 ho Bd K u q;unfold yh at q;refine rS<|cP (eG (aT O) O (aP.agg (i:=1) O O) Bc)<|cR O g<|cP (eG (aT O) O (aP.agg (i:=2) O O) yO)<|cR O g<|cP (eG (aT O) O (aP.agg (i:=3) O O) yN)<|cR O g<|cP (bA aav ajr O O)<|cN<|ak 1054721 O<|ai<|IQ (τ:=σ×Int) (J:=J) (fun s1=>s1.1) (fun s1=>[(0,.val (wR l)),(11,.val (UN (c0.2.1,c0.2.2.1,c0.2.2.2))),(12,.val (TiZ s1.2))]) q hJ (sS [20,0,11,12] O) (fun k2 s1 I q hJ=>?_)
 refine rS<|cP (eC (aT O) aI)<|ak 1062913 O<|ah<|gc O q (fun hb3 q=>?_) fun hb3 q=>?_
 ·refine aj<|aw<|ah<|ai ?_
  obtain⟨x4,h5,q⟩:=ab q;refine rS<|cP (BC (f:=ar) (l:=([c0.2.1,c0.2.2.1,c0.2.2.2]:ard V3)) afQ g (fun _=>O) O (aT O) (aT O) h5)<|cT bY<|cs O O O g<|ak 1054737 O<|ah<|X0 (l1:=[_,_]) O O hy q hJ O O (ft.cons (Step.pure (oM O) O O (bU O) O O) (ft.cons (Step.pure (ae O g) O O (bU O) O O) (ft.fin (sS [0,11,12,15,16,20] O)))) O (aJ.cons (aT O) aJ.nil) O (sS [0,11,12] O) O (bU O) (bU O) (fun u I q hJ=>aw ?_) (fun I hJ=>aw ?_)
  rotate_left
  ·refine rY O (fun _=>an (Ml O O O hJ)) (fun h=>by cases h)
  ·
   refine rY O (fun h=>by cases h) (fun _=>?_);refine aj (aw ?_);obtain⟨x6,h7,q⟩:=ab q;exact rK<|cH O h7<|cO (oM O)<|ak 1054721 O (GC q hJ (sS [20,0,11,12] O))
 ·exact aN (Sc O O O q hJ)
def QF{a0 r}(q:BK a0=some r):al prog 173 [pJ a0] (.vs [(Sl prog (fun(x:V3)=>[ar x])) r]):=by
 unfold BK at q;refine c7 func173 O ntmps173 (by kernel_rfl) fun w0 H0=>rS<|cX<|cP (aA (Arg.c O))<|ak 2 O<|rS<|cG (pT (t:=1) O)<|cP (Bz (o:=Lp a0) (aJ.cons (aT O) aJ.nil) (fun _ h=>Mw h))<|cA<|ak 4 O ?_
 cases q;exact an (r1 O)
def C0{a0 r}(q:vV a0=some r):al prog 175 [pJ a0] (.vs [aY r]):=by
 refine c7 func175 O ntmps175 (by kernel_rfl) fun w0 H0=>rS<|cX<|cB<|ak 2 O ?_
 obtain⟨x1,h2,x3,h4,q⟩:=b2 q;obtain⟨x5,h6,q⟩:=aH q;obtain⟨x7,h8,q⟩:=aH q;obtain⟨x9,kG,q⟩:=aH q;obtain⟨iM,qC,q⟩:=aH q;refine rS<|jg 1 O Bc O g<|jg 2 O yO O g<|cC (fg h2) O<|cC (ja h4) O<|cP (df (aT O) aI)<|cM<|gV O O (ov 1 O on) (fun rW=>a8 O yO)<|gV O O (oo 11 O id (ov 1 O on)) (fun hg2=>oP 2 O O g)<|gV O O (ov 1 O on) (fun P=>a8 O yN)<|gV O O (oo 13 O id (ov 1 O on)) (fun wk=>oP 3 O O g)<|gV O O (oo 12 O id (oo 14 O id on)) (fun Az=>oC (fg (h6 Az)) O)<|gV O O (oo 15 O id on) (fun CL=>oC (ja (h8 CL)) O)<|gV O O (oo 16 O id on) (fun JQ=>df (aT O) aI)<|cP (dh (aT O) O je)<|cM<|gV O O (ov 1 O on) (fun OQ=>a8 O yN)<|gV O O (oo 20 O id (ov 1 O on)) (fun Pn=>oP 3 O O g)<|gV O O (ov 1 O on) (fun Ff=>a8 O Bc)<|gV O O (oo 22 O id (ov 1 O on)) (fun Le=>oP 1 O O g)<|gV O O (oo 21 O id (oo 23 O id on)) (fun Fe=>oC (fg (kG Fe)) O)<|gV O O (oo 24 O id on) (fun Ld=>oC (ja (qC Ld)) O)<|gV O O (oo 25 O id on) (fun NZ=>df (aT O) aI)<|cP (dh (aT O) O je)<|cA<|ak 4 O ?_
 cases q;exact an (r1 O)
def YG{a0 a1 a2 r}(q:Qc a0 a1 a2=some r):al prog 176 [ar a0,ar a1,ar a2] (.vs [aX r]):=by
 refine c7 func176 O ntmps176 (by kernel_rfl) fun w0 H0=>rS<|cX<|cX<|cX<|cT V<|ak 120 O ?_
 obtain⟨x1,h2,x3,h4,q⟩:=b2 q;refine gE 6 mixed<|dP [3] O (ae O g)<|dP [4] O (ae O g)<|dP [7,8] O (oC (jw h2) O)<|dP [5] O (ae O g)<|dP [9,10] O (oC (fg h4) O)<|dS [6,11] O (ds O O O d)<|dN<|dE [6] O (by kernel_rfl)<|cD ?_
 cases q;exact an (q1 O d)
def FY{a0 r}(q:yi a0=some r):al prog 92 [zO a0] (.vs [TiZ r]):=by
 refine c7 func92 O ntmps92 (by kernel_rfl) fun w0 H0=>rS<|cX<|cT sJ<|ak 6 O<|ah ?_
 obtain⟨x1,h2,q⟩:=ab q;refine rS<|jg 0 O X7 O B<|jg 1 O X6 O B<|jg 2 O X5 O B<|jg 3 O X4 O B<|cP (bS jR Oy O O)<|cC (GX h2) O<|cA<|ak 14 O<|rS<|cM<|cP (da (aT O) aI)<|ak 131086 O<|gc O q (fun hb3 q=>?_) fun hb3 q=>?_
 ·refine rS<|cM<|cs O O O Kv<|ak 4 O ?_
  cases q;exact an (q1 O Kv)
 ·refine aj (aw ?_);obtain⟨x4,h5,q⟩:=ab q;refine rS<|cU O abI<|cC (Ct h5) O<|cT I9<|cs O O O DQ<|ak 20 O<|ah ?_
  obtain⟨x6,h7,q⟩:=ab q;refine rS<|cU O DQ<|cC (QF h7) O<|cF [2,4,22] O<|ai ?_
  obtain⟨fp,kU,q⟩:=ab q;refine Ch (σ:=Int) [2,4] (fun s8=>[(2,.own 31 (TiZ s8)),(4,.own 170 (pJ x4))]) (some [(2,.own 31 (TiZ r))]) q kU O O O (sS [2,4] O) (fun _=>O) (fun G h=>by cases h;rfl) (fun _=>O) O (by decide) (fun wr Hr l rc pv k11 x9 s8 UW q=>?_) (fun s8 q=>aw ?_) (fun G h=>by cases h;exact fX O O ((bu.cell O (sB Kv) O bu.nil)))
  ·
   refine rK<|cT bY<|cs O O O g<|ak 90159953477684 O (Ow (sS [41,2,4,5,44,46] O) O ?_)
   refine ai ?_;obtain⟨gp,mu,q⟩:=ab q;refine rS<|cU O g<|cC (ln mu) O<|ak 90159987032084 O<|gc O q (fun Gr q=>?_) fun Gr q=>?_
   ·refine rS<|cS (sU O aI O Kv)<|cF [2,4,41,44,46] O ?_
    cases q;exact an (ame (adg O (sS [41,44,46,2] O)))
   ·exact aj (xE (J6:=(some [(2,.own 31 (TiZ r))])) q (sS [41,44,46,2,4] O))
  ·
   obtain⟨iZ,qi,q⟩:=ab q;obtain⟨kR,h21,q⟩:=aH q;obtain⟨my,Cf,q⟩:=aH q;obtain⟨sE,Gv,q⟩:=ab q;refine rS<|cU O DQ<|cC (C0 qi) O<|cP (jF (aT O))<|cM<|gV O O (ov 4 O on) (fun rW=>a8 O Bc)<|gV O O (oo 30 O id (ov 4 O on)) (fun hg2=>oP 1 O O g)<|gV O O (ov 4 O on) (fun P=>a8 O yO)<|gV O O (oo 32 O id (ov 4 O on)) (fun wk=>oP 2 O O g)<|gV O O (ov 4 O on) (fun Az=>a8 O yN)<|gV O O (oo 34 O id (ov 4 O on)) (fun CL=>oP 3 O O g)<|gV O O (oo 31 O id (oo 33 O id (oo 35 O id on))) (fun JQ=>oC (YG (h21 JQ)) O)<|gV O O (oo 36 O id on) (fun OQ=>oC (ja (Cf OQ)) O)<|gV O O (oo 37 O id on) (fun Pn=>yc (aT O) aI)<|cP (fO (aT O) O jY)<|cC (xe Gv) O<|cs O O O Kv<|ak 4 O ?_
   cases q;exact an (q1 O Kv)
def Jd{a0 a1 r}(q:A2 a0 a1=some r):al prog 177 [pJ a0,ar a1] (.vs [ar r]):=by
 refine c7 func177 O ntmps177 (by kernel_rfl) fun w0 H0=>rS<|cX<|cX<|cT bY<|ak 28 O ?_
 obtain⟨x1,h2,x3,h4,x5,h6,x7,h8,x9,kG,q⟩:=b5 q;refine gE 18 mixed<|dQ 1 O Bc O g<|dP [3] O (iO O M O)<|dP [7,3] O (oP 0 O O d)<|dP [6,8] O (oC (gw h2) O)<|dQ 2 O yO O g<|dP [3] O (iO O M O)<|dP [12,3] O (oP 1 O O d)<|dP [11,13] O (oC (gw h4) O)<|dP [9,14] O (oC (jk h6) O)<|dQ 3 O yN O g<|dP [3] O (iO O M O)<|dP [18,3] O (oP 2 O O d)<|dP [17,19] O (oC (gw h8) O)<|dP [15,20] O (oC (jk kG) O)<|dS [4,21] O (ds O O O g)<|dN<|dE [4] O (by kernel_rfl)<|cD ?_
 cases q;exact an (q1 O g)
def GW{a0 a1 r}(q:zj a0 a1=some r):al prog 96 [pJ a0,ar a1] (.vs [ar r]):=by
 refine c7 func96 O ntmps96 (by kernel_rfl) fun w0 H0=>rS<|cX<|cX<|cT bY<|ak 28 O ?_
 obtain⟨x1,h2,x3,h4,q⟩:=b2 q;refine gE 7 mixed<|dQ 0 O acV O g<|dP [2] O (ae O DQ)<|dP [3] O (ae O g)<|dP [7,8] O (oC (Jd h2) O)<|dP [6,9] O (oC (jk h4) O)<|dS [4,10] O (ds O O O g)<|dN<|dE [4] O (by kernel_rfl)<|cD ?_
 cases q;exact an (q1 O g)
end
end Trn
