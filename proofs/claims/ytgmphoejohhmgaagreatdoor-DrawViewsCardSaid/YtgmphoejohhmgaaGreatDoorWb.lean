/-
  Part of the proof of DrawViews.
-/
import Derived.Test.YtgmphoejohhmgaaGreatDoorWa
set_option maxRecDepth 100000
set_option maxHeartbeats 20000000
set_option linter.all false
open Go Go.RowKit Go.Proofs Go.Proofs.Tryz
namespace Trn
section
variable[D:DR]
def kZ{a0 r}(q:iE a0=some r):al prog 138 [aZ a0] (.vs [aZ r]):=by
 refine c7 func138 O ntmps138 (by kernel_rfl) fun w0 H0=>rS<|cX<|cT gv<|ak 6 O<|ah<|rS<|jg 1 O nI O yJ<|cP (qo dU (aT O))<|cM<|gV O O (ov 1 O on) (fun rW=>a8 O gz)<|gV O O (oo 9 O id (ov 1 O on)) (fun hg2=>oP 0 O O C)<|gV O O (oo 10 O id on) (fun P=>da (aT O) aI)<|cP (dh (aT O) O je)<|ak 4102 O<|gc O q (fun hb1 q=>?_) fun hb1 q=>?_
 ·obtain⟨x2,h3,q⟩:=ab q;refine rS<|jg 0 O gz O C<|cP (Eo (aT O) h3)<|cP (bB gv ur O)<|cs O O O m<|ak 4 O ?_
  cases q;exact an (q1 O m)
 ·refine aj (aw ?_);obtain⟨x4,h5,q⟩:=ab q;refine rS<|cU O m<|cC (iH h5) O<|cZ<|cE<|cE<|cA<|cA<|ak 28 O ?_
  obtain⟨x6,h7,q⟩:=ab q;refine rS<|cM<|cP (jF (aT O))<|cM<|cC (rJ h7) O<|cs O O O m<|ak 4 O ?_
  cases q;exact an (q1 O m)
def U9{a0 r}(q:BN a0=some r):al prog 156 [TS a0] (.vs [aZ r]):=by
 refine c7 func156 O ntmps156 (by kernel_rfl) fun w0 H0=>rS<|cT gv<|ak 5 O ?_
 obtain⟨x1,h2,q⟩:=ab q;refine rS<|cM<|cP (fL (E1 h2) (aJ.cons (aT O) (aJ.cons (Arg.s O) aJ.nil)))<|cA<|ak 13 O ?_
 obtain⟨x3,h4,q⟩:=ab q;refine rS<|cM<|cP (fL (vI h4) (aJ.cons (aT O) (aJ.cons (Arg.s O) aJ.nil)))<|cO (oA O)<|ak 13 O<|rS<|cP (bB gv ur O)<|cT gv<|cs O O O m<|ak 29 O<|ah<|ai<|jj [2,3] O (σ:=adx×(Int×ard Int)) (fun s5=>[(0,.val (TS s5.1)),(4,.own 85 (aZ s5.2))]) q O (fun k6 s5 q=>?_)
 refine ah<|rS<|cM<|cP (fy U (aT O))<|cP (cq (aT O) aI)<|ak 32797 O<|gc O q (fun A9 q=>?_) fun A9 q=>?_
 ·refine aj<|aw<|ai<|rS<|cM<|cP (fy U (aT O))<|cP (Xi aI (aT O))<|cA<|ak 61 O ?_
  obtain⟨x8,h9,dz,jv,q⟩:=b2 q;refine rS<|cM<|cM<|cP (fY U (aT O) Lo.none (Lo.some (aT O)) h9)<|cC (ahr jv) O<|cZ<|cE<|cE<|cA<|cA<|ak 125 O ?_
  obtain⟨fp,kU,gp,mu,gS,Q,iZ,qi,kR,h21,q⟩:=b5 q;refine gE 9 mixed<|dP [4] O (ae O m)<|dP [] O (oC (C9 kU) O)<|dP [5] O (oM O)<|dP [27,28] O (oC (O1 mu) O)<|dP [26,29] O (oC (vd Q) O)<|dP [6] O (oM O)<|dP [31] O (oC (C9 qi) O)<|dP [30,32] O (oC (ve h21) O)<|dS [4,33] O (ds O O O m)<|dN<|dE [0,2,3,4,5] O (by kernel_rfl)<|cD ?_
  obtain⟨my,Cf,q⟩:=ab q;exact rK<|cM<|cM<|cP (fY U (aT O) (Lo.some (aT O)) Lo.none Cf)<|cO (oA O)<|ak 29 O (cm q O)
 ·refine aN<|aw<|ah<|rS<|cM<|cF [2,4,37] O<|gc O q (fun N1 q=>?_) fun N1 q=>?_
  ·obtain⟨nZ,Ba,q⟩:=ab q;refine rS<|cU O m<|cC (kZ Ba) O<|cs O O O m<|ak 4 O ?_
   cases q;exact an (q1 O m)
  ·refine aj<|aw<|rS<|cU O m<|cs O O O m<|ak 4 O ?_
   cases q;exact an (q1 O m)
def zX{a0 r}(q:ra a0=some r):al prog 230 [aZ a0] (.vs [aZ r]):=by
 refine c7 func230 O ntmps230 (by kernel_rfl) fun w0 H0=>rS<|cX<|cT gv<|ak 6 O<|ah<|rS<|jg 0 O gz O C<|cP (eC (aT O) aI)<|ak 38 O<|gc O q (fun hb1 q=>?_) fun hb1 q=>?_
 ·obtain⟨x2,h3,q⟩:=ab q;refine rS<|cU O m<|cC (kZ h3) O<|cs O O O m<|ak 4 O ?_
  cases q;exact an (q1 O m)
 ·refine aj<|aw<|rS<|cU O m<|cs O O O m<|ak 4 O ?_
  cases q;exact an (q1 O m)
def mS{a0 r}(q:js a0=some r):al prog 104 [aZ a0] (.vs [TiZ r]):=by
 unfold js at q;refine c7 func104 O ntmps104 (by kernel_rfl) fun w0 H0=>rS<|cX<|cI<|ak 2 O<|rS<|jg 0 O gz O C<|cP (Xi aI (aT O))<|cP (Rf aI (aT O))<|cA<|ak 4 O ?_
 cases q;exact an (r1 O)
def y6{a0 a1 a2 r}(q:mm a0 a1 a2=some r):al prog 312 [(TI .u64) a0,(TI .u64) a1,(TI .u64) a2] (.vs [(TI .u64) r.1,(TI .u64) r.2]):=by
 refine c7 func312 O ntmps312 (by kernel_rfl) fun w0 H0=>rS<|cI<|cI<|ak 7 O<|ah<|rS<|cM<|cP (df (aT O) aI)<|ak 1048583 O<|gc O q (fun hb1 q=>?_) fun hb1 q=>?_
 ·cases q
 ·refine aj<|aw<|ah<|rS<|cM<|cM<|cP (yc (aT O) (aT O))<|ak 16777223 O<|gc O q (fun hb2 q=>?_) fun hb2 q=>?_
  ·cases q
  ·refine aj<|aw<|ah<|rS<|cM<|cP (df (aT O) aI)<|cF [0,1,2,27] O<|gc O q (fun hb3 q=>?_) fun hb3 q=>?_
   ·obtain⟨x4,h5,x6,h7,q⟩:=b2 q;refine gE 8 mixed<|dP [1] O (oM O)<|dP [2] O (oM O)<|dP [28,29] O (Rc (aT O) (aT O) h5)<|dP [1] O (oM O)<|dP [2] O (oM O)<|dP [31,32] O (mQ (aT O) (aT O) h7)<|dP [30] O (oA O)<|dP [33] O (oA O)<|dN<|dE [6,7] O (by kernel_rfl)<|cD ?_
    cases q;exact an (r2 O)
   ·refine aj (aw ?_);obtain⟨x8,h9,q⟩:=ab q;refine rS<|cM<|cC (aaY h9) O<|cP (vQ Ky afp (aT O))<|cA<|ak 263 O ?_
    obtain⟨dz,jv,q⟩:=ab q;refine rS<|cM<|cM<|cP (Nu (aT O) (aT O) jv)<|cO (oA O)<|ak 263 O ?_
    obtain⟨fp,kU,q⟩:=ab q;refine rS<|cM<|cP (Gc (aT O) aI kU)<|cA<|ak 775 O<|rS<|cM<|cP (Ro (aT O) aI)<|cA<|ak 1799 O ?_
    obtain⟨gp,mu,gS,Q,q⟩:=b2 q;refine rS<|cM<|cM<|cP (Nu (aT O) (aT O) mu)<|cM<|cM<|cP (Ac aI (aT O))<|cP (Gc (aT O) (aT O) Q)<|cP (Vy (aT O) (aT O))<|cA<|ak 3846 O ?_
    obtain⟨iZ,qi,q⟩:=ab q;refine rS<|cM<|cM<|cP (Nu (aT O) (aT O) qi)<|cA<|ak 7940 O ?_
    obtain⟨kR,h21,q⟩:=ab q;refine rS<|cM<|cP (Gc (aT O) aI h21)<|cA<|ak 16132 O<|rS<|cM<|cP (Ro (aT O) aI)<|cA<|ak 28420 O ?_
    obtain⟨my,Cf,q⟩:=ab q;refine rS<|cM<|cM<|cP (Rc (aT O) (aT O) Cf)<|cA<|ak 61188 O<|rS<|cM<|cM<|cM<|cP (wx (aT O) (aT O))<|cP (Ac (aT O) (aT O))<|cA<|ak 126724 O<|ah<|uU [2,8,9,10,11,13,14] O (α:=Int) (fun s24=>[(15,.val (TI .u64 s24))]) q (fun k25 q=>?_) (fun s24 q=>?_)
    ·refine ai<|jj [2,8,9,10,11,13,14] O (σ:=Int×Int) (fun FE=>[(15,.val (TI .u64 FE.1)),(16,.val (TI .u64 FE.2))]) q O (fun VR FE q=>?_)
     refine ah<|rS<|cM<|cP (jG (aT O) aI)<|cM<|gV O O (ov 15 O on) (fun rW=>oM O)<|gV O O (ov 10 O on) (fun hg2=>oM O)<|gV O O (oo 70 O id (oo 71 O id on)) (fun P=>wx (aT O) (aT O))<|gV O O (ov 16 O on) (fun wk=>oM O)<|gV O O (oo 73 O id on) (fun Az=>wx aI (aT O))<|gV O O (ov 13 O on) (fun CL=>oM O)<|gV O O (oo 74 O id (oo 75 O id on)) (fun JQ=>uB (aT O) (aT O))<|gV O O (oo 72 O id (oo 76 O id on)) (fun OQ=>cq (aT O) (aT O))<|cP (fO (aT O) O jY)<|ak 302231454903657293803268 O ?_
     refine gc O q (fun acx q=>?_) fun acx q=>?_
     ·refine aj<|aw<|ai<|rS<|cM<|cP (Ac (aT O) aI)<|cO (oA O)<|ak 126724 O<|rS<|cM<|cM<|cP (uB (aT O) (aT O))<|cO (oA O)<|ak 126724 O<|rS<|cM<|cP (jG (aT O) aI)<|ak 38685626227668133590724356 O<|gc O q (fun R1 q=>?_) fun R1 q=>?_
      ·exact aN (cm q O)
      ·exact aj (cm q O)
     ·exact aN (cm q O)
    ·refine aw ?_;refine rS<|cM<|cP (wx (aT O) aI)<|cM<|cP (uB (aT O) (aT O))<|cM<|cM<|cP (wx (aT O) (aT O))<|cP (Ac (aT O) (aT O))<|cA<|ak 182020 O ?_
     obtain⟨qE,CO,q⟩:=ab q;refine rS<|cM<|cM<|cP (Rc (aT O) (aT O) CO)<|cA<|ak 444164 O<|rS<|cM<|cM<|cM<|cP (wx (aT O) (aT O))<|cP (Ac (aT O) (aT O))<|cA<|ak 509700 O<|ah<|uU [2,8,14,15,17] O (α:=Int) (fun Vq=>[(18,.val (TI .u64 Vq))]) q (fun k33 q=>?_) (fun Vq q=>?_)
     ·refine ai<|jj [2,8,9,10,14,15,17] O (σ:=Int×Int) (fun Lv=>[(16,.val (TI .u64 Lv.1)),(18,.val (TI .u64 Lv.2))]) q O (fun k35 Lv q=>?_)
      refine ah<|rS<|cM<|cP (jG (aT O) aI)<|cM<|gV O O (ov 18 O on) (fun Pn=>oM O)<|gV O O (ov 10 O on) (fun Ff=>oM O)<|gV O O (oo 105 O id (oo 106 O id on)) (fun Le=>wx (aT O) (aT O))<|gV O O (ov 16 O on) (fun Fe=>oM O)<|gV O O (oo 108 O id on) (fun Ld=>wx aI (aT O))<|gV O O (ov 14 O on) (fun NZ=>oM O)<|gV O O (oo 109 O id (oo 110 O id on)) (fun Po=>uB (aT O) (aT O))<|gV O O (oo 107 O id (oo 111 O id on)) (fun RZ=>cq (aT O) (aT O))<|cP (fO (aT O) O jY)<|cF [2,8,9,10,14,15,16,17,18,113] O ?_
      refine gc O q (fun air q=>?_) fun air q=>?_
      ·refine aj<|aw<|ai<|rS<|cM<|cP (Ac (aT O) aI)<|cO (oA O)<|ak 509700 O<|rS<|cM<|cM<|cP (uB (aT O) (aT O))<|cO (oA O)<|ak 509700 O<|rS<|cM<|cP (jG (aT O) aI)<|cF [2,8,9,10,14,15,16,17,18,120] O<|gc O q (fun aiq q=>?_) fun aiq q=>?_
       ·exact aN (cm q O)
       ·exact aj (cm q O)
      ·exact aN (cm q O)
     ·refine aw ?_;obtain⟨Fm,Um,q⟩:=ab q;refine rS<|cM<|cP (wx (aT O) aI)<|cM<|cP (uB (aT O) (aT O))<|cM<|cP (wx (aT O) aI)<|cM<|cP (uB (aT O) (aT O))<|cM<|cM<|cP (wx (aT O) (aT O))<|cP (Ac (aT O) (aT O))<|cM<|cP (Gc (aT O) (aT O) Um)<|cA<|cA<|ak 192 O ?_
      cases q;exact an (r2 O)
def Fv{a0 a1 r}(q:qW a0 a1=some r):al prog 314 [(TL (TI .u64)) a0,TiZ a1] (.fr 332 1 (lT (TI .u64) r)):=by
 refine c7 func314 O ntmps314 (by kernel_rfl) fun w0 H0=>?_
 refine rS<|cP (ba (TI .u64) 332 1)<|ak 3 O ?_
 obtain⟨x1,h2,x3,h4,q⟩:=b2 q;refine rS<|cM<|cJ dU O<|cH O h2<|cP (FH (TI .u64) Zn w9 O (aT O) (aT O) h4)<|cS (bt O O (bU O) _ (Or.inl O))<|ak 35 O ?_
 refine ah<|rS<|cM<|cJ dU O<|cN<|ak 28706 O ?_
 refine ai<|jj [1,12,13] O (σ:=ard Int×Int) (fun s5=>[(5,.buf 332 1 (lT (TI .u64) s5.1)),(14,.val (TiZ s5.2))]) q O (fun k6 s5 q=>?_)
 refine rS<|cL O O<|ak 61474 O ?_
 refine ah<|gc O q (fun A9 q=>?_) fun A9 q=>?_
 ·refine aj<|aw<|ah<|uU [1,12,13,14] O (α:=(ard Int)) (fun s8=>[(5,.buf 332 1 (lT (TI .u64) s8))]) q (fun k9 q=>?_) (fun s8 q=>?_)
  ·refine ai ?_;obtain⟨dz,jv,q⟩:=ab q;refine rS<|cM<|cP (oX W (dI O) O O jv)<|cR O dx<|cA<|cA<|ak 28898 O ?_
   obtain⟨fp,kU,gp,mu,gS,Q,iZ,qi,kR,h21,q⟩:=b5 q;refine gE 10 mixed<|dP [5] O (eI)<|dP [6] O (oM O)<|dP [19,20,5] O (dK W O O (aT O) kU)<|dP [21,5] O (og (f:=(TI .u64)) (fun _=>O) O O (bF mu) dx)<|dP [7] O (oM O)<|dP [1] O (oM O)<|dP [23,24] O (Nu (aT O) (aT O) Q)<|dP [22,25] O (Vy (aT O) (aT O))<|dP [19,20,5] O (dK W O O (aT O) qi)<|dS [26,27,5] O (Q1 (f:=(TI .u64)) (fun _=>O) O O (bF h21) (aT O) dx)<|dN<|dE [1,5,6,7,12,13,14] O (by kernel_rfl)<|cD ?_
   refine rS<|cM<|cP (cq (aT O) aI)<|ak 536899810 O ?_
   refine gc O q (fun R3 q=>?_) fun R3 q=>?_
   ·obtain⟨kP,wP,nZ,Ba,oN,CP,Ax,IM,vH,Fh,q⟩:=b5 q;exact rK<|cQ<|cM<|cH O wP<|cM<|cM<|cP (bn aI (aT O) Ba)<|cP (Gc (aT O) (aT O) CP)<|cP (dK W O O (aT O) IM)<|cS (o8 (f:=(TI .u64)) (fun _=>O) O O (bF Fh) (aT O) dx)<|ak 28706 O (cm q O)
   ·exact aj (cm q O)
  ·refine aw ?_;obtain⟨xd,Gu,q⟩:=ab q;exact rK<|cH O Gu<|cO (oM O)<|ak 28706 O (cm q O)
 ·refine aN<|aw<|rS<|cQ<|cS (SZ O O O (bU O) _ (Or.inl O))<|cF [4] O ?_
  cases q;exact an (wQ O O O O)
def U8{ps qs:ard apU}{a0:ard Int}{a1:ard Int}{r:ard Int×Int}(q:BM a0 a1=some r):fF prog 315 [] (.od 332 ps qs (lT (TI .u64) a0)) (.od 332 ps qs (lT (TI .u64) r.1)) [(TL (TI .u64)) a1] [(TI .u64) r.2]:=by
 refine uS (N:=186) func315 O ntmps315 (by simp) ai6 O O fun w1 v w0 H0 hk=>?_
 refine lP (sS [0,1,186] O) ?_;refine rS<|cI<|cF [0,1,186] O<|rS<|cM<|cJ dU O<|cA<|cF [0,1,5,186] O<|rS<|cI<|cI<|cF [0,1,5,186] O<|rS<|cI<|cF [0,1,5,8,186] O<|ah ?_
 obtain⟨x1,h2,x3,h4,x5,h6,x7,h8,q⟩:=b4 q;refine gE 10 mixed<|dP [0] O (eI)<|dP [5] O (oM O)<|dP [21,22,0] O (uz W (dZ.same O) O (aT O) h2)<|dP [23,0] O (BA (f:=(TI .u64)) (fun _=>O) O O (bF h4) dx)<|dP [1] O (oM O)<|dP [5] O (oM O)<|dP [26] O (bn (aT O) aI h6)<|dP [25,27] O (oX W (dI O) O O h8)<|dP [28] O (aU (aT O) dx)<|dP [24,29] O (jG (aT O) (aT O))<|dN<|dE [0,1,5,8,30,186] O (by kernel_rfl)<|cD<|uU [0,1,5,186] O (α:=Int×Int×Int) (fun s9=>[(6,.val (TI .u64 s9.1)),(7,.val (TI .u64 s9.2.1)),(8,.val (TI .u64 s9.2.2))]) q (fun OM q=>?_) (fun s9 q=>?_)
 ·refine gc O q (fun JU q=>?_) fun JU q=>?_
  ·refine rS<|cI<|cF [0,1,5,6,186] O ?_
   obtain⟨fp,kU,gp,mu,gS,Q,iZ,qi,kR,h21,my,Cf,q⟩:=b6 q;exact gD 16 mixed<|dP [0] O (eI)<|dP [5] O (oM O)<|dP [33] O (bn (aT O) aI kU)<|dP [32,34,0] O (uz W (dZ.same O) O (aT O) mu)<|dP [35,0] O (BA (f:=(TI .u64)) (fun _=>O) O O (bF Q) dx)<|dP [1] O (oM O)<|dP [5] O (oM O)<|dP [38] O (bn (aT O) aI qi)<|dP [37,39] O (oX W (dI O) O O h21)<|dP [40] O (aU (aT O) dx)<|dP [36,41] O (Ad (Bs Cf) (aJ.cons (aT O) (aJ.cons (aT O) (aJ.cons aI aJ.nil))))<|dP [42] O (vP O)<|dP [31] O (dW O O)<|dP [31] O (dW O O)<|dP [43] O (oA O)<|dP [44] O (oA O)<|dN<|dE [0,1,5,6,7,8,186] O (by kernel_rfl)<|cD (cm q O)
  ·obtain⟨sE,Gv,yY,JX,oY,Fi,qE,CO,qf,JW,yX,N6,q⟩:=b6 q;obtain⟨uj,R5,Fm,Um,q⟩:=b2 q;exact gD 20 mixed<|dP [0] O (eI)<|dP [5] O (oM O)<|dP [46,47,0] O (uz W (dZ.same O) O (aT O) Gv)<|dP [48,0] O (BA (f:=(TI .u64)) (fun _=>O) O O (bF JX) dx)<|dP [0] O (eI)<|dP [5] O (oM O)<|dP [51] O (bn (aT O) aI Fi)<|dP [50,52,0] O (uz W (dZ.same O) O (aT O) CO)<|dP [53,0] O (BA (f:=(TI .u64)) (fun _=>O) O O (bF JW) dx)<|dP [1] O (oM O)<|dP [5] O (oM O)<|dP [56] O (bn (aT O) aI N6)<|dP [55,57] O (oX W (dI O) O O R5)<|dP [58] O (aU (aT O) dx)<|dP [49,54,59] O (oC (y6 Um) O)<|dP [60] O (vP O)<|dP [45] O (dW O O)<|dP [45] O (dW O O)<|dP [61] O (oA O)<|dP [62] O (oA O)<|dN<|dE [0,1,5,6,7,8,186] O (by kernel_rfl)<|cD (cm q O)
 ·refine aw ?_;refine ah<|uU [0,1,5,186] O (α:=Int) (fun y9=>[(6,.val (TI .u64 y9))]) q (fun k41 q=>?_) (fun y9 q=>?_)
  ·refine ai<|jj [0,1,5,186] O (σ:=Int×Int×Int) (fun E8=>[(6,.val (TI .u64 E8.1)),(7,.val (TI .u64 E8.2.1)),(8,.val (TI .u64 E8.2.2))]) q O (fun k43 E8 q=>?_)
   refine ah<|rS<|cM<|cP (df (aT O) aI)<|cF [0,1,5,6,7,64,186] O<|gc O q (fun aio q=>?_) fun aio q=>?_
   ·refine aj<|aw<|ai ?_
    obtain⟨PG,ZQ,Lk,Sy,KH,h50,q⟩:=b3 q;refine rS<|cM<|cM<|cM<|cP (bn (aT O) aI ZQ)<|cP (oX W (dI O) O O Sy)<|cR O dx<|cC (Lt h50) O<|cZ<|cE<|cE<|cA<|cA<|cF [0,1,5,6,7,9,10,186] O<|ah ?_
    obtain⟨J7,Ul,q⟩:=aH q;obtain⟨FX,Uk,q⟩:=aH q;obtain⟨Ms,h56,q⟩:=aH q;refine rS<|cM<|cM<|cL O O<|cM<|gV O O (ov 9 O on) (fun rW=>oM O)<|gV O O (ov 7 O on) (fun hg2=>oM O)<|gV O O (oo 79 O id (oo 80 O id on)) (fun P=>df (aT O) (aT O))<|gV O O (oo 81 O id on) (fun wk=>oM O)<|gO O O (ov 10 O on) (fun Az=>oM O)<|gO O O (ov 0 O on) (fun CL=>eI)<|gO O O (ov 5 O on) (fun JQ=>oM O)<|gO O O (oo 85 O id on) (fun OQ=>bn (aT O) aI (Ul OQ))<|gO O O (oo 84 O id (oo 86 O id (ov 0 O on))) (fun Pn=>uz W (dZ.same O) O (aT O) (Uk Pn))<|gO O O (oo 87 O id (ov 0 O on)) (fun Ff=>BA (f:=(TI .u64)) (fun _=>O) O O (bF (h56 Ff)) dx)<|gO O O (oo 83 O id (oo 88 O id on)) (fun Le=>yc (aT O) (aT O))<|gV O O (oo 82 O id (ov 89 O on)) (fun Fe=>dh (aT O) O (fun h=>D9 (id Fe) (je h)))<|cP (fO (aT O) O jY)<|cF [0,1,5,6,7,91,186] O ?_
    refine gc O q (fun aoL q=>?_) fun aoL q=>?_
    ·exact aN (cm q O)
    ·refine aj<|aw<|rS<|cM<|cP (Ac (aT O) aI)<|cO (oA O)<|cF [0,1,5,6,7,186] O ?_
     obtain⟨SA,h59,Sz,h61,CX,Lh,q⟩:=b3 q;exact rK<|cM<|cM<|cM<|cP (bn (aT O) aI h59)<|cP (oX W (dI O) O O h61)<|cR O dx<|cP (Ad (Bs Lh) (aJ.cons (aT O) (aJ.cons (aT O) (aJ.cons aI aJ.nil))))<|cZ<|cE<|cE<|cO (oA O)<|cA<|cF [0,1,5,6,7,8,186] O (cm q O)
   ·exact aN (cm q O)
  ·refine aw ?_;refine rS<|cI<|cI<|cF [0,1,5,6,11,12,186] O<|ah<|rS<|cM<|cN<|cF [0,1,5,6,11,12,104,105,186] O<|ai<|jj [1,5,6,104,186] O (σ:=ard Int×Int×Int×Int) (fun Hz=>[(0,.od 332 ps qs (lT (TI .u64) Hz.1)),(11,.val (TI .u64 Hz.2.1)),(12,.val (TI .u64 Hz.2.2.1)),(105,.val (TiZ Hz.2.2.2))]) q O (fun k65 Hz q=>?_)
   refine rS<|cL O O<|cF [0,1,5,6,11,12,104,105,106,186] O<|ah<|gc O q (fun aoI q=>?_) fun aoI q=>?_
   ·refine aj<|aw<|ah<|ai<|rS<|cM<|cA<|cF [0,1,5,6,11,12,13,104,105,186] O ?_
    obtain⟨x67,h68,Yw,h70,q⟩:=b2 q;refine rS<|cM<|cM<|cM<|cP (oX W (dI O) O O h68)<|cR O dx<|cC (Lt h70) O<|cZ<|cE<|cE<|cA<|cA<|cF [0,1,5,6,11,12,13,14,15,104,105,186] O<|rS<|cI<|cF [0,1,5,6,11,12,13,14,15,104,105,186] O ?_
    obtain⟨Yv,h72,q⟩:=ab q;refine rS<|cM<|cM<|cP (Ad (Bs h72) (aJ.cons (aT O) (aJ.cons (aT O) (aJ.cons aI aJ.nil))))<|cZ<|cE<|cE<|cO (oA O)<|cA<|cF [0,1,5,6,11,13,14,15,16,104,105,186] O<|rS<|cM<|cM<|cP (uB (aT O) (aT O))<|cA<|cF [0,1,5,6,11,12,13,15,104,105,186] O ?_
    obtain⟨KG,h74,x75,h76,x77,h78,PD,h80,yS,h82,q⟩:=b5 q;refine rK<|cQ<|cM<|cQ<|cM<|cP (uz W (dZ.same O) O (aT O) h74)<|cP (BA (f:=(TI .u64)) (fun _=>O) O O (bF h76) dx)<|cM<|cM<|cP (Ad (Q4 h78) (aJ.cons (aT O) (aJ.cons (aT O) (aJ.cons (aT O) aJ.nil))))<|cZ<|cE<|cE<|cP (uz W (dZ.same O) O (aT O) h80)<|cS (Ve (f:=(TI .u64)) (fun _=>O) O O (bF h82) (aT O) dx)<|cO (oA O)<|cF [0,1,5,6,11,12,104,105,186] O (aw ?_)
    obtain⟨x83,h84,q⟩:=ab q;exact rK<|cH O h84<|cO (oM O)<|cF [0,1,5,6,11,12,104,105,186] O (cm q O)
   ·refine aN (aw ?_);obtain⟨x85,h86,x87,h88,Ja,h90,WL,h92,WK,h94,q⟩:=b5 q;refine rS<|cQ<|cM<|cQ<|cM<|cP (uz W (dZ.same O) O (aT O) h86)<|cP (BA (f:=(TI .u64)) (fun _=>O) O O (bF h88) dx)<|cM<|cM<|cP (Ad (Q4 h90) (aJ.cons (aT O) (aJ.cons (aT O) (aJ.cons (aT O) aJ.nil))))<|cZ<|cE<|cE<|cP (uz W (dZ.same O) O (aT O) h92)<|cS (Ve (f:=(TI .u64)) (fun _=>O) O O (bF h94) (aT O) dx)<|cO (oA O)<|cF [0,1,5,6,11,186] O<|ah<|rS<|cM<|cP (df (aT O) aI)<|cF [0,1,5,6,154,186] O<|gc O q (fun aoz q=>?_) fun aoz q=>?_
    ·refine rS<|cM<|cA<|cF [0,4,186] O ?_
     cases q;exact an (Wx hk O (bu.tmp O O bu.nil) O O O O)
    ·refine aj<|aw<|rS<|cI<|cF [0,1,5,6,17,186] O<|ah<|rS<|cM<|cN<|cF [0,1,5,6,17,156,157,186] O<|ai<|jj [1,5,6,156,186] O (σ:=ard Int×Int×Int) (fun K3=>[(0,.od 332 ps qs (lT (TI .u64) K3.1)),(17,.val (TI .u64 K3.2.1)),(157,.val (TiZ K3.2.2))]) q O (fun k97 K3 q=>?_)
     refine rS<|cL O O<|cF [0,1,5,6,17,156,157,158,186] O<|ah<|gc O q (fun ail q=>?_) fun ail q=>?_
     ·refine aj<|aw<|ah<|ai<|rS<|cM<|cA<|cF [0,1,5,6,17,18,156,157,186] O ?_
      obtain⟨U6,We,KK,acG,KJ,acF,YD,aiS,ad9,aiR,Mu,aiQ,q⟩:=b6 q;refine gD 18 mixed<|dP [0] O (eI)<|dP [18] O (oM O)<|dP [0] O (eI)<|dP [18] O (oM O)<|dP [163,164,0] O (uz W (dZ.same O) O (aT O) We)<|dP [165,0] O (BA (f:=(TI .u64)) (fun _=>O) O O (bF acG) dx)<|dP [1] O (oM O)<|dP [18] O (oM O)<|dP [167,168] O (oX W (dI O) O O acF)<|dP [169] O (aU (aT O) dx)<|dP [17] O (oM O)<|dP [166,170,171] O (Ad (Bs aiS) (aJ.cons (aT O) (aJ.cons (aT O) (aJ.cons (aT O) aJ.nil))))<|dP [172] O (vP O)<|dP [160] O (dW O O)<|dP [160] O (dW O O)<|dP [161,162,0] O (uz W (dZ.same O) O (aT O) aiR)<|dS [173,175,0] O (aes (f:=(TI .u64)) (fun _=>O) O O (bF aiQ) (aT O) dx)<|dP [174] O (oA O)<|dN<|dE [0,1,5,6,17,156,157,186] O (by kernel_rfl)<|cD (aw ?_)
      obtain⟨YC,aiP,q⟩:=ab q;exact rK<|cH O aiP<|cO (oM O)<|cF [0,1,5,6,17,156,157,186] O (cm q O)
     ·refine aN (aw ?_);obtain⟨SG,aiO,QD,aiN,SF,aiM,Mt,aiL,q⟩:=b4 q;refine rS<|cQ<|cM<|cP (uz W (dZ.same O) O (aT O) aiO)<|cP (BA (f:=(TI .u64)) (fun _=>O) O O (bF aiN) dx)<|cM<|cP (uB (aT O) (aT O))<|cP (uz W (dZ.same O) O (aT O) aiM)<|cS (Ve (f:=(TI .u64)) (fun _=>O) O O (bF aiL) (aT O) dx)<|cF [0,6,186] O<|rS<|cM<|cP (Ac (aT O) aI)<|cA<|cF [0,4,186] O ?_
      cases q;exact an (Wx hk O (bu.tmp O O bu.nil) O O O O)
def G7{a0 a1 r}(q:tn a0 a1=some r):al prog 254 [(TL (TI .u64)) a0,(TL (TI .u64)) a1] (.vs [(TL (TI .u64)) r.1,(TL (TI .u64)) r.2]):=by
 refine c7 func254 O ntmps254 (by kernel_rfl) fun w0 H0=>?_
 refine rS<|cP (aA (Arg.nn (f:=(TI .u64))))<|cP (aA (Arg.nn (f:=(TI .u64))))<|ak 3 O ?_
 refine ah ?_;obtain⟨x1,h2,q⟩:=ab q;refine rS<|cM<|cM<|cC (xN h2) O<|cP (eC (aT O) aI)<|ak 524291 O ?_
 refine gc O q (fun hb3 q=>?_) fun hb3 q=>?_
 ·refine rS<|cM<|cP (aA (Arg.nn (f:=(TI .u64))))<|cA<|ak 48 O ?_
  cases q;exact an (fi (US (t:=4) O) (fX O O (bu.tmp O O (bu.tmp O O bu.nil))))
 ·refine aj<|aw<|ah<|rS<|cM<|cJ dU O<|cP (df (aT O) aI)<|cF [0,1,23] O ?_
  refine gc O q (fun Lf q=>?_) fun Lf q=>?_
  ·obtain⟨x5,h6,q⟩:=ab q;refine rS<|cM<|cJ dU O<|cP (FH (TI .u64) Zn w9 O (aT O) (aT O) h6)<|cS (bt O O (bU O) _ (Or.inl O))<|ak 67 O ?_
   refine rS<|cI<|ak 195 O ?_
   refine ah ?_;obtain⟨x7,h8,q⟩:=ab q;refine rS<|cM<|cJ dU O<|cP (bn (aT O) aI h8)<|cA<|ak 451 O ?_
   refine ai<|jj [0,1] O (σ:=ard Int×Int×Int) (fun s9=>[(6,.buf 332 1 (lT (TI .u64) s9.1)),(7,.val (TI .u64 s9.2.1)),(8,.val (TiZ s9.2.2))]) q O (fun OM s9 q=>?_)
   refine ah<|rS<|cM<|cP (jG (aT O) aI)<|ak 2147484099 O ?_
   refine gc O q (fun JU q=>?_) fun JU q=>?_
   ·refine aj<|aw<|ah<|ai ?_
    obtain⟨fp,kU,gp,mu,gS,Q,iZ,qi,kR,h21,q⟩:=b5 q;refine gD 17 mixed<|dP [6] O (eI)<|dP [8] O (oM O)<|dP [7] O (oM O)<|dP [0] O (oM O)<|dP [8] O (oM O)<|dP [38,39] O (oX W (dI O) O O kU)<|dP [40] O (aU (aT O) dx)<|dP [1] O (oM O)<|dP [42] O (kS W (dI O) (aT O) aI mu)<|dP [43] O (aU (aT O) dx)<|dP [37,41,44] O (oC (y6 Q) O)<|dP [45] O (vP O)<|dP [34] O (dW O O)<|dP [34] O (dW O O)<|dP [35,36,6] O (dK W O O (aT O) qi)<|dS [46,48,6] O (Q1 (f:=(TI .u64)) (fun _=>O) O O (bF h21) (aT O) dx)<|dP [47] O (oA O)<|dN<|dE [0,1,6,7,8] O (by kernel_rfl)<|cD (aw ?_)
    obtain⟨my,Cf,q⟩:=ab q;exact rK<|cM<|cP (bn (aT O) aI Cf)<|cO (oA O)<|ak 451 O (cm q O)
   ·refine aN (aw ?_);obtain⟨sE,Gv,yY,JX,q⟩:=b2 q;refine rS<|cQ<|cG (ij (t:=6) O)<|cG (jL (s:=49) O O)<|cC (oZ Gv) O<|cM<|cP (bS w9 adh O O)<|cC (oZ JX) O<|cA<|cA<|ak 48 O ?_
    cases q;exact an (r2 O)
  ·refine aj (aw ?_);obtain⟨oY,Fi,qE,CO,qf,JW,q⟩:=b3 q;refine rS<|cM<|cM<|cJ dU O<|cP (bn (aT O) aI Fi)<|cP (oX W (dI O) O O CO)<|cR O dx<|cC (aaY JW) O<|cA<|ak 515 O ?_
   obtain⟨yX,N6,uj,R5,q⟩:=b2 q;refine rS<|cM<|cM<|cC (Fv N6) O<|cG (ij (t:=63) O)<|cC (oZ R5) O<|cA<|ak 1537 O ?_
   obtain⟨Fm,Um,q⟩:=ab q;refine rS<|cM<|cM<|cC (Fv Um) O<|cS (bt O O (bU O) _ (Or.inl O))<|ak 3585 O ?_
   refine rS<|cM<|cJ dU O<|cA<|ak 7681 O ?_
   obtain⟨WN,h41,x42,h43,Sn,Pq,q⟩:=b3 q;refine rS<|cM<|cJ dU O<|cM<|cP (bn (aT O) (aT O) h41)<|cH O h43<|cP (FH (TI .u64) Zn w9 O (aT O) (aT O) Pq)<|cS (bt O O (bU O) _ (Or.inl O))<|ak 15873 O ?_
   refine ah ?_;obtain⟨PF,XV,q⟩:=ab q;refine rS<|cM<|cJ dU O<|cM<|cP (bn (aT O) (aT O) XV)<|cA<|ak 32256 O ?_
   refine ai<|jj [9,10,12] O (σ:=ard Int×ard Int×Int) (fun FD=>[(11,.buf 332 1 (lT (TI .u64) FD.1)),(13,.buf 332 1 (lT (TI .u64) FD.2.1)),(14,.val (TiZ FD.2.2))]) q O (fun k49 FD q=>?_)
   refine ah<|rS<|cM<|cP (jG (aT O) aI)<|cF [9,10,11,12,13,14,81] O ?_
   refine gc O q (fun ain q=>?_) fun ain q=>?_
   ·refine aj<|aw<|ah<|ai ?_
    obtain⟨J7,Ul,FX,Uk,q⟩:=b2 q;obtain⟨h55,q⟩:=rE q;obtain⟨SB,h57,q⟩:=ab q;obtain⟨h58,q⟩:=rE q;obtain⟨x59,h60,x61,h62,q⟩:=b2 q;refine rK<|cQ<|cM<|cQ<|cM<|cM<|cM<|cP (bR (aT O) (aT O) Ul)<|cH O Uk<|cP (P6 (f:=(TI .u64)) W (dZ.same O) O (Lo.some (aT O)) (Lo.some (aT O)) h55)<|cM<|cS (S1 (f:=(TI .u64)) (xs:=[]) (ys:=[.tmp 93]) (fun _=>O) (fun ps qs _=>U8 h57) dZ.own O O h58 aJ.nil (aJ.cons (aT O) aJ.nil) (bU O) O)<|cP (dK W O O (aT O) h60)<|cS (o8 (f:=(TI .u64)) (fun _=>O) O O (bF h62) (aT O) dx)<|ak 32256 O (aw ?_)
    obtain⟨Yx,h64,q⟩:=ab q;exact rK<|cM<|cP (bn (aT O) aI h64)<|cO (oA O)<|ak 32256 O (cm q O)
   ·refine aN<|aw<|ah<|rS<|cM<|cN<|cF [9,11,12,13,96,97] O ?_
    refine ai<|jj [9,12,13,96] O (σ:=ard Int×Int) (fun Bh=>[(11,.buf 332 1 (lT (TI .u64) Bh.1)),(97,.val (TiZ Bh.2))]) q O (fun k66 Bh q=>?_)
    refine rS<|cL O O<|cF [9,11,12,13,96,97,98] O ?_
    refine ah<|gc O q (fun aoH q=>?_) fun aoH q=>?_
    ·refine aj<|aw<|ah<|uU [9,12,13,96,97] O (α:=(ard Int)) (fun s68=>[(11,.buf 332 1 (lT (TI .u64) s68))]) q (fun k69 q=>?_) (fun s68 q=>?_)
     ·refine ai<|rS<|cM<|cA<|cF [9,11,12,13,15,96,97] O ?_
      obtain⟨x70,h71,x72,h73,Yu,h75,PE,h77,x78,h79,q⟩:=b5 q;refine rS<|cQ<|cM<|cP (dK W O O (aT O) h71)<|cP (og (f:=(TI .u64)) (fun _=>O) O O (bF h73) dx)<|cM<|cP (Gc (aT O) (aT O) h75)<|cP (dK W O O (aT O) h77)<|cS (o8 (f:=(TI .u64)) (fun _=>O) O O (bF h79) (aT O) dx)<|cF [9,11,12,13,15,96,97] O ?_
      obtain⟨x80,h81,q⟩:=aH q;refine rS<|cM<|cP (cq (aT O) aI)<|cM<|gV O O (ov 15 O on) (fun rW=>oM O)<|gV O O (oo 110 O id on) (fun hg2=>bR (aT O) aI (h81 hg2))<|gV O O (ov 11 O on) (fun P=>eI)<|gV O O (oo 112 O id (ov 11 O on)) (fun wk=>mU dU O O)<|gV O O (oo 111 O id (oo 113 O id on)) (fun Az=>eC (aT O) (aT O))<|cP (dh (aT O) O je)<|cF [9,11,12,13,15,96,97,115] O ?_
      refine gc O q (fun aoB q=>?_) fun aoB q=>?_
      ·obtain⟨x83,h84,x85,h86,x87,h88,Ja,h90,WL,h92,WK,h94,q⟩:=b6 q;obtain⟨UO,h96,x97,h98,U6,We,q⟩:=b3 q;exact gD 15 mixed<|dP [11] O (eI)<|dP [15] O (oM O)<|dP [116,117,11] O (dK W O O (aT O) h84)<|dP [118,11] O (og (f:=(TI .u64)) (fun _=>O) O O (bF h86) dx)<|dP [11] O (eI)<|dP [15] O (oM O)<|dP [121] O (bR (aT O) aI h88)<|dP [120,122,11] O (dK W O O (aT O) h90)<|dP [123,11] O (og (f:=(TI .u64)) (fun _=>O) O O (bF h92) dx)<|dP [9] O (oM O)<|dP [125] O (bn aI (aT O) h94)<|dP [124,126] O (Nu (aT O) (aT O) h96)<|dP [119,127] O (Vy (aT O) (aT O))<|dP [116,117,11] O (dK W O O (aT O) h98)<|dS [128,129,11] O (Q1 (f:=(TI .u64)) (fun _=>O) O O (bF We) (aT O) dx)<|dN<|dE [9,11,12,13,96,97] O (by kernel_rfl)<|cD (cm q O)
      ·exact aj (cm q O)
     ·refine aw ?_;obtain⟨KK,acG,q⟩:=ab q;exact rK<|cH O acG<|cO (oM O)<|cF [9,11,12,13,96,97] O (cm q O)
    ·refine aN<|aw<|ah<|Ci (ij (t:=13) O) ?_
     refine Ci (ij (t:=11) O) ?_;refine lP (sS [9,11,12,13,96,97,98] O) ?_;obtain⟨KJ,acF,YD,aiS,ad9,aiR,q⟩:=b3 q;refine gD 8 mixed<|dP [13] O (oM O)<|dP [131] O (oC (oZ acF) O)<|dP [11] O (oM O)<|dP [12] O (oM O)<|dP [133,134] O (sv W (dI O) (aT O) Lo.none (Lo.some (aT O)) aiS)<|dP [135] O (oC (oZ aiR) O)<|dP [132] O (oA O)<|dP [136] O (oA O)<|dN<|dE [4,5] O (by kernel_rfl)<|cD (aw ?_)
     cases q;exact an (r2 O)
def Fw{a0 a1 r}(q:qX a0 a1=some r):al prog 246 [aZ a0,aZ a1] (.vs [aZ r]):=by
 refine c7 func246 O ntmps246 (by kernel_rfl) fun w0 H0=>rS<|cX<|cX<|cT gv<|ak 28 O ?_
 obtain⟨x1,h2,x3,h4,q⟩:=b2 q;refine gE 5 mixed<|dP [2] O (ae O m)<|dP [3] O (ae O m)<|dP [6] O (oC (kZ h2) O)<|dP [5,7] O (oC (ve h4) O)<|dS [4,8] O (ds O O O m)<|dN<|dE [4] O (by kernel_rfl)<|cD ?_
 cases q;exact an (q1 O m)
def AL{a0 a1 r}(q:mX a0 a1=some r):al prog 231 [aZ a0,aZ a1] (.vs [aZ r.1,aZ r.2]):=by
 refine c7 func231 O ntmps231 (by kernel_rfl) fun w0 H0=>rS<|cX<|cX<|cT gv<|cT gv<|ak 60 O<|ah<|rS<|jg 1 O nI O yJ<|cP (qo dU (aT O))<|cM<|gV O O (ov 3 O on) (fun rW=>a8 O nI)<|gV O O (oo 20 O id (ov 3 O on)) (fun hg2=>oP 1 O O yJ)<|gV O O (oo 21 O id on) (fun P=>qo dU (aT O))<|cP (dh (aT O) O je)<|cM<|gV O O (ov 2 O on) (fun wk=>a8 O gz)<|gV O O (oo 25 O id (ov 2 O on)) (fun Az=>oP 0 O O C)<|gV O O (oo 26 O id on) (fun CL=>da (aT O) aI)<|cP (dh (aT O) O je)<|ak 268435516 O ?_
 refine gc O q (fun hb1 q=>?_) fun hb1 q=>?_
 ·obtain⟨x2,h3,x4,h5,q⟩:=b2 q;refine gE 12 mixed<|dQ 0 O gz O C<|dQ 0 O gz O C<|dP [30,32] O (rq (aT O) (aT O) h3)<|dQ 0 O gz O C<|dQ 0 O gz O C<|dP [35,37] O (mQ (aT O) (aT O) h5)<|dP [33] O (oA O)<|dP [38] O (oA O)<|dN<|dE [3,4,5,6,7] O (by kernel_rfl)<|cD<|ah<|rS<|cM<|cP (eC (aT O) aI)<|cF [3,4,5,6,7,40] O<|uU [4,5] O (α:=Int×Int) (fun s6=>[(6,.val (TiZ s6.1)),(7,.val (TiZ s6.2))]) q (fun k7 q=>?_) (fun s6 q=>?_)
  ·refine gc O q (fun Y q=>?_) fun Y q=>?_
   ·obtain⟨x9,kG,iM,qC,q⟩:=b2 q;exact gD 8 mixed<|dP [6] O (oM O)<|dP [41] O (bn (aT O) aI kG)<|dP [7] O (oM O)<|dQ 0 O gz O C<|dP [43,45] O (bR (aT O) (aT O) qC)<|dP [42] O (oA O)<|dP [46] O (oA O)<|dN<|dE [4,5,6,7] O (by kernel_rfl)<|cD (cm q O)
   ·exact aj (cm q O)
  ·refine aw ?_;refine rS<|cM<|cP (bB gv ur O)<|cM<|cP (bB gv ur O)<|cs O O O m<|cs O O O m<|ak 48 O ?_
   cases q;exact an (fX O O (bu.cell O (sB m) O (bu.cell O (sB m) O bu.nil)))
 ·refine aj (aw ?_);obtain⟨iW,nJ,q⟩:=ab q;refine rS<|cU O m<|cC (iH nJ) O<|cZ<|cE<|cE<|cA<|cA<|ak 824 O ?_
  obtain⟨kd,S,q⟩:=ab q;refine rS<|cU O m<|cC (iH S) O<|cZ<|cE<|cE<|cA<|cA<|ak 2872 O ?_
  obtain⟨iP,T,q⟩:=ab q;refine rS<|cM<|cM<|cC (G7 T) O<|cZ<|cE<|cE<|cA<|cA<|ak 12600 O ?_
  obtain⟨ju,Z,kQ,wb,q⟩:=b2 q;refine rS<|cM<|cM<|cC (rJ Z) O<|cM<|cM<|cC (rJ wb) O<|cT gv<|cT gv<|cs O O O m<|cs O O O m<|ak 49208 O<|ah ?_
  obtain⟨kP,wP,q⟩:=ab q;refine rS<|cU O m<|cC (mS wP) O<|cP (eC (aT O) aI)<|cF [3,4,5,14,15,75] O<|uU [4,5] O (α:=(Int×ard Int)×(Int×ard Int)) (fun qn=>[(14,.own 85 (aZ qn.1)),(15,.own 85 (aZ qn.2))]) q (fun NO q=>?_) (fun qn q=>?_)
  ·refine gc O q (fun Wc q=>?_) fun Wc q=>?_
   ·obtain⟨oY,Fi,qE,CO,qf,JW,q⟩:=b3 q;exact gD 8 mixed<|dP [14] O (ae O m)<|dP [] O (oC (C9 Fi) O)<|dP [76,77] O (oC (Fw CO) O)<|dP [15] O (ae O m)<|dP [3] O (ae O m)<|dP [79,80] O (oC (ve JW) O)<|dS [14,78] O (ds O O O m)<|dS [15,81] O (ds O O O m)<|dN<|dE [4,5,14,15] O (by kernel_rfl)<|cD (cm q O)
   ·exact aj (cm q O)
  ·refine aw ?_;refine gE 4 mixed<|dP [14] O (ae O m)<|dP [15] O (ae O m)<|dS [4,82] O (ds O O O m)<|dS [5,83] O (ds O O O m)<|dN<|dE [4,5] O (by kernel_rfl)<|cD ?_
   cases q;exact an (fX O O (bu.cell O (sB m) O (bu.cell O (sB m) O bu.nil)))
def PH{a0 a1 r}(q:Et a0 a1=some r):al prog 155 [aZ a0,aZ a1] (.vs [aZ r]):=by
 refine c7 func155 O ntmps155 (by kernel_rfl) fun w0 H0=>rS<|cX<|cX<|cT gv<|ak 28 O ?_
 obtain⟨x1,h2,x3,h4,q⟩:=b2 q;refine gE 6 mixed<|dP [2] O (ae O m)<|dP [7] O (oC (zX h2) O)<|dP [3] O (ae O m)<|dP [9] O (oC (zX h4) O)<|dS [2,8] O (ds O O O m)<|dS [3,10] O (ds O O O m)<|dN<|dE [2,3,4] O (by kernel_rfl)<|cD<|ah<|ai<|jj [4] O (σ:=(Int×ard Int)×(Int×ard Int)) (fun s5=>[(2,.own 85 (aZ s5.1)),(3,.own 85 (aZ s5.2))]) q O (fun k6 s5 q=>?_)
 refine ah ?_;obtain⟨x7,h8,q⟩:=ab q;refine rS<|cU O m<|cC (mS h8) O<|cP (da (aT O) aI)<|ak 8220 O<|gc O q (fun N0 q=>?_) fun N0 q=>?_
 ·refine aj<|aw<|ai ?_
  obtain⟨dz,jv,q⟩:=ab q;exact rS<|cU O m<|cU O m<|cC (AL jv) O<|cZ<|cE<|cE<|cT gv<|cT gv<|cs O O O m<|cs O O O m<|ak 92 O<|gD 4 mixed<|dP [3] O (ae O m)<|dP [6] O (ae O m)<|dS [2,20] O (ds O O O m)<|dS [3,21] O (ds O O O m)<|dN<|dE [2,3,4] O (by kernel_rfl)<|cD (cm q O)
 ·refine aN<|aw<|rS<|cU O m<|cs O O O m<|cF [4] O ?_
  cases q;exact an (q1 O m)
def KS{a0 r}(q:ru a0=some r):al prog 157 [aZ a0] (.vs [TiZ r.1,aY r.2]):=by
 unfold ru at q;refine c7 func157 O ntmps157 (by kernel_rfl) fun w0 H0=>rS<|cX<|cI<|cB<|ak 2 O<|gE 7 mixed<|dQ 0 O gz O C<|dQ 1 O nI O yJ<|dP [7] O (qo dU (aT O))<|dP [5] O (oA O)<|dP [8] O (oA O)<|dN<|dE [2,3] O (by kernel_rfl)<|cD ?_
 cases q;exact an (r2 O)
def QT{H:HV}{z:Int}{v:apU}(h:(mP z).ok H v):∃r,qI r z/\(aZ r).ok H v:=h
def Z3{f:FuncId}{x y:Int}{c6:ard Ty}(hc:dY prog f=true)(h:∀r s,qI r x->qI s y->∃wY,al prog f [aZ r,aZ s] (.vs wY)/\∀H v,vO H wY v->vO H c6 v):al prog f [mP x,mP y] (.vs c6):=
 Dk hc fun H vs gq=>by
  obtain⟨u,v,rfl,hu,hv⟩:=BE gq;obtain⟨r,hr,hru⟩:=QT hu;obtain⟨s,hs,hsv⟩:=QT hv;obtain⟨wY,h1,h2⟩:=h r s hr hs;exact⟨[aZ r,aZ s],wY,⟨u,[v],rfl,hru,v,[],rfl,hsv,rfl⟩,h1,h2⟩
def QU{H:HV}{z:Int}{v:apU}{r:Int×ard Int}(h:qI r z)(k:(aZ r).ok H v):(mP z).ok H v:=⟨r,h,k⟩
def Tu{z:Int}{q:Int×ard Int}(h:qI q z):∀(H:HV) (v:apU),vO H [aZ q] v->vO H [mP z] v:=fun H v k=>QU h k
def aeC{x y:Int}{r:Int}(hm:Sj x y=some r):al prog 155 [mP x,mP y] (.vs [mP r]):=by
 obtain⟨hb,rfl⟩:=iL hm;obtain⟨h1,h2⟩:=eK hb;exact Z3 (by kernel_rfl) fun r s hr hs=>by obtain⟨q,e,hq⟩:=Xp hr hs h1 h2;exact⟨_,PH e,Tu hq⟩
def Te{x:adx}{r:Int}(hm:tT x=some r):al prog 156 [TS x] (.vs [mP r]):=by
 obtain⟨q,e,hq⟩:=abu hm;have:=U9 e;exact Dk (by kernel_rfl) fun H vs gq=>⟨_,_,gq,this,Tu hq⟩
def Z4{f:FuncId}{x:Int}{c6:ard Ty}(hc:dY prog f=true)(h:∀r,qI r x->∃wY,al prog f [aZ r] (.vs wY)/\∀H v,vO H wY v->vO H c6 v):al prog f [mP x] (.vs c6):=
 Dk hc fun H vs gq=>by
  obtain⟨u,rfl,hu⟩:=sZ gq;obtain⟨r,hr,hru⟩:=QT hu;obtain⟨wY,h1,h2⟩:=h r hr;exact⟨[aZ r],wY,⟨u,[],rfl,hru,rfl⟩,h1,h2⟩
def Vp{x:Int}{r:Int×Bool}(hm:GJ x=some r):al prog 157 [mP x] (.vs [TI .i64 r.1,aY r.2]):=by
 obtain⟨hb,rfl⟩:=iL hm;rw[gY,kE] at hb;exact Z4 (by kernel_rfl) fun r hr=>⟨_,KS (Zj hr hb),fun _ _ h=>h⟩
def qK{a0 r}(q:ib a0=some r):al prog 76 [TS a0] (.vs [TiZ r]):=by
 refine c7 func76 O ntmps76 (by kernel_rfl) fun w0 H0=>rS<|cI<|ak 1 O ?_
 obtain⟨x1,h2,q⟩:=ab q;refine rS<|cM<|cP (fL (agj h2) (aJ.cons (aT O) (aJ.cons (Arg.s O) aJ.nil)))<|cZ<|cE<|cE<|cE<|cA<|cA<|cA<|ak 56 O ?_
 obtain⟨x3,h4,q⟩:=ab q;refine rS<|cM<|cP (fL (E2 h4) (aJ.cons (aT O) (aJ.cons (Arg.s O) aJ.nil)))<|cZ<|cE<|cE<|cA<|cA<|ak 240 O<|ah ?_
 obtain⟨x5,h6,q⟩:=ab q;obtain⟨x7,h8,q⟩:=aH q;refine rS<|cM<|cC (Fo h6) O<|cP (jF (aT O))<|cM<|gV O O (ov 7 O on) (fun rW=>oM O)<|gV O O (oo 25 O id on) (fun hg2=>oM O)<|gO O O (ov 6 O on) (fun P=>oM O)<|gO O O (oo 27 O id on) (fun wk=>uA (aT O) (Arg.s O))<|gV O O (oo 26 O id (ov 28 O on)) (fun Az=>dh (aT O) O (fun h=>D9 (id Az) (je h)))<|cP (fO (aT O) O jY)<|cM<|gV O O (ov 5 O on) (fun CL=>oM O)<|gV O O (oo 32 O id on) (fun JQ=>oM O)<|gO O O (ov 4 O on) (fun OQ=>oM O)<|gO O O (oo 34 O id on) (fun Pn=>oC (Fo (h8 Pn)) O)<|gO O O (oo 35 O id on) (fun Ff=>jF (aT O))<|gO O O (oo 36 O id on) (fun Le=>oM O)<|gO O O (ov 4 O on) (fun Fe=>oM O)<|gO O O (oo 38 O id on) (fun Ld=>uA (aT O) (Arg.s O))<|gO O O (oo 37 O id (ov 39 O on)) (fun NZ=>fO (aT O) O (fun h=>D9 (id NZ) (jY h)))<|gO O O (oo 40 O id on) (fun Po=>oM O)<|gO O O (ov 4 O on) (fun RZ=>oM O)<|gO O O (oo 42 O id on) (fun V9=>uA (aT O) (Arg.s O))<|gO O O (oo 41 O id (ov 43 O on)) (fun ZL=>fO (aT O) O (fun h=>D9 (id ZL) (jY h)))<|gV O O (oo 33 O id (ov 44 O on)) (fun acn=>dh (aT O) O (fun h=>D9 (id acn) (je h)))<|cP (fO (aT O) O jY)<|cF [4,5,6,46] O ?_
 refine gc O q (fun N0 q=>?_) fun N0 q=>?_
 ·refine rS<|cI<|ak 4 O ?_
  cases q;exact an (r1 O)
 ·refine aj<|aw<|ah<|rS<|cM<|cP (fy U (aT O))<|cP (cq (aT O) aI)<|cM<|gV O O (ov 4 O on) (fun aih=>oM O)<|gV O O (oo 51 O id on) (fun aif=>fy U (aT O))<|gV O O (oo 52 O id on) (fun afy=>cq (aT O) aI)<|cP (fO (aT O) O jY)<|cF [4,5,6,54] O<|gc O q (fun wO q=>?_) fun wO q=>?_
  ·refine rS<|cI<|ak 4 O ?_
   cases q;exact an (r1 O)
  ·refine aj<|aw<|ah<|rS<|cM<|cF [4,6,55] O<|DV (α:=Unit) (fun Jp=>[]) q (fun Md q=>?_) (fun Jp q=>?_)
   ·refine gc O q (fun N3 q=>?_) fun N3 q=>?_
    ·obtain⟨gp,mu,gS,Q,iZ,qi,kR,h21,q⟩:=b4 q;refine rS<|cM<|cC (Te mu) O<|cM<|cC (Te Q) O<|cC (aeC qi) O<|cC (Vp h21) O<|cZ<|cE<|cE<|cA<|cA<|ak 768 O<|rS<|cM<|cP (jF (aT O))<|cM<|gV O O (ov 8 O on) (fun acm=>oM O)<|gV O O (oo 68 O id on) (fun aie=>da (aT O) aI)<|cP (fO (aT O) O jY)<|cF [70] O<|gc O q (fun R3 q=>?_) fun R3 q=>?_
     ·refine rS<|cI<|ak 4 O ?_
      cases q;exact an (r1 O)
     ·exact aj (cm q O)
    ·exact aj (cm q O)
   ·refine aw ?_;refine rS<|cI<|ak 4 O ?_
    cases q;exact an (r1 O)
def Je{a0 r}(q:uE a0=some r):al prog 97 [(TL TS) a0] (.vs [TiZ r]):=by
 refine c7 func97 O ntmps97 (by kernel_rfl) fun w0 H0=>rS<|cI<|ak 1 O<|ah<|rS<|cM<|cJ JM O<|cN<|ak 448 O<|ai<|jj [6,7] O (σ:=Int) (fun s1=>[(8,.val (TiZ s1))]) q O (fun k2 s1 q=>?_)
 refine rS<|cL O O<|ak 960 O<|ah<|gc O q (fun hb3 q=>?_) fun hb3 q=>?_
 ·refine aj<|aw<|ah<|ai ?_
  obtain⟨x4,h5,q⟩:=ab q;refine rS<|cP (oX PQ (dI O) O O h5)<|cR O X<|cA<|ak 464 O ?_
  obtain⟨x6,h7,q⟩:=ab q;refine rS<|cM<|cC (qK h7) O<|cA<|ak 480 O<|rS<|cM<|cP (da (aT O) aI)<|ak 33248 O<|gc O q (fun Y q=>?_) fun Y q=>?_
  ·refine rS<|cM<|cA<|ak 4 O ?_
   cases q;exact an (r1 O)
  ·refine aj (aw ?_);obtain⟨x9,kG,q⟩:=ab q;exact rK<|cH O kG<|cO (oM O)<|ak 448 O (cm q O)
 ·refine aN<|aw<|rS<|cI<|ak 4 O ?_
  cases q;exact an (r1 O)
end
end Trn
