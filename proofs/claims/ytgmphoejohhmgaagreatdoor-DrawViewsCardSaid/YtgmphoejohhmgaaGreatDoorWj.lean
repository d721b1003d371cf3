/-
  Part of the proof of DrawViews.
-/
import Derived.Test.YtgmphoejohhmgaaGreatDoorWi
set_option maxRecDepth 100000
set_option maxHeartbeats 20000000
set_option linter.all false
open Go Go.RowKit Go.Proofs Go.Proofs.Tryz
namespace Trn
section
variable[D:DR]
def KZ{a0 a1 a2 r}(q:CE a0 a1 a2=some r):al prog 95 [ar a0,ar a1,ar a2] (.vs [cz r.1,TiZ r.2]):=by
 refine c7 func95 O ntmps95 (by kernel_rfl) fun w0 H0=>rS<|cX<|cX<|cX<|cT zR<|cI<|ak 120 O<|ah ?_
 obtain⟨x1,h2,q⟩:=ab q;obtain⟨x3,h4,q⟩:=aH q;obtain⟨x5,h6,q⟩:=aH q;refine rS<|cU O g<|cC (l5 h2) O<|cM<|gV O O (ov 4 O on) (fun rW=>ae O g)<|gV O O (oo 11 O id on) (fun hg2=>oC (l5 (h4 hg2)) O)<|cP (fO (aT O) O jY)<|cM<|gV O O (ov 5 O on) (fun P=>ae O g)<|gV O O (oo 15 O id on) (fun wk=>oC (l5 (h6 wk)) O)<|cP (fO (aT O) O jY)<|ak 131192 O<|gc O q (fun A9 q=>?_) fun A9 q=>?_
 ·refine rS<|cP (bB zR M5 O)<|cs O O O kv<|cI<|ak 192 O ?_
  cases q;exact an (fX O O (bu.cell O (sB kv) O (bu.tmp O O bu.nil)))
 ·refine aj (aw ?_);obtain⟨x8,h9,dz,jv,fp,kU,q⟩:=b3 q;refine gE 9 mixed<|dP [3] O (ae O g)<|dP [19] O (oC (lC h9) O)<|dP [4] O (ae O g)<|dP [21] O (oC (lC jv) O)<|dP [5] O (ae O g)<|dP [23] O (oC (lC kU) O)<|dP [20,22,24] O (bB zR M5 O)<|dS [6,25] O (ds O O O kv)<|dP [] O (aA aI)<|dN<|dE [6,7] O (by kernel_rfl)<|cD ?_
  cases q;exact an (fX O O (bu.cell O (sB kv) O (bu.tmp O O bu.nil)))
def QP{a0 a1 r}(q:Ie a0 a1=some r):al prog 27 [zO a0,aW a1] (.vs [(TL cz) r.1,TiZ r.2]):=by
 refine c7 func27 O ntmps27 (by kernel_rfl) fun w0 H0=>rS<|cX<|cX<|cP (ba cz 26 9)<|cI<|ak 12 O<|ah ?_
 obtain⟨x1,h2,x3,h4,x5,h6,q⟩:=b3 q;refine gE 7 mixed<|dP [2] O (ae O abI)<|dP [17] O (oC (FY h2) O)<|dP [3] O (ae O B)<|dP [19] O (oC (jS h4) O)<|dP [18,20] O (bS sJ uW O O)<|dP [21] O (oC (iJ h6) O)<|dP [22] O (oA O)<|dN<|dE [2,3,6] O (by kernel_rfl)<|cD<|rS<|cM<|cP (da (aT O) aI)<|ak 16777292 O<|gc O q (fun A9 q=>?_) fun A9 q=>?_
 ·refine rS<|cM<|cP (ba cz 26 9)<|cA<|ak 48 O ?_
  cases q;exact an (fi (ij (t:=4) O) (fX O O (bu.tmp O O (bu.tmp O O bu.nil))))
 ·refine aj (aw ?_);obtain⟨x8,h9,dz,jv,q⟩:=b2 q;refine gE 8 mixed<|dP [3] O (ae O B)<|dP [26] O (oC (gT h9) O)<|dP [2] O (ae O abI)<|dP [28] O (oC (Ct jv) O)<|dP [] O (gW bY)<|dP [] O (gW I9)<|dS [7,27] O (ds O O O g)<|dS [8,29] O (ds O O O DQ)<|dN<|dE [7,8] O (by kernel_rfl)<|cD<|ah<|rS<|cU O g<|cN<|cF [7,8,30,31] O<|ai<|jj [7,8,30] O (σ:=Int) (fun E9=>[(31,.val (TiZ E9))]) q O (fun k13 E9 q=>?_)
  refine rS<|cP (eC (aT O) aI)<|ak 7516193152 O<|ah<|gc O q (fun R4 q=>?_) fun R4 q=>?_
  ·refine aj<|aw<|ah<|ai ?_
   obtain⟨kd,S,q⟩:=ab q;refine rS<|cP (BC (f:=aX) (l:=([x8.1,x8.2.1,x8.2.2]:ard Rat)) Of d (fun _=>O) O (aT O) (aT O) S)<|cT V<|cs O O O d<|ak 3221226880 O ?_
   obtain⟨iP,T,q⟩:=ab q;refine rS<|cU O d<|cC (ja T) O<|cP (yc (aT O) aI)<|ak 71940702592 O<|gc O q (fun acz q=>?_) fun acz q=>?_
   ·refine rS<|cP (ba cz 26 9)<|cI<|ak 48 O ?_
    cases q;exact an (fi (ij (t:=4) O) (fX O O (bu.tmp O O (bu.tmp O O bu.nil))))
   ·refine aj (aw ?_);obtain⟨kR,h21,q⟩:=ab q;exact rK<|cH O h21<|cO (oM O)<|cF [7,8,30,31] O (cm q O)
  ·refine aN (aw ?_);obtain⟨my,Cf,q⟩:=ab q;refine rS<|cC (Lq Cf) O<|cT V<|cs O O O d<|ak 2432 O<|rS<|cP (ba cz 26 9)<|ak 6528 O<|ah ?_
   obtain⟨sE,Gv,yY,JX,q⟩:=b2 q;refine gE 37 mixed<|dP [11] O (ae O d)<|dP [11] O (ae O d)<|dP [7] O (iO O M O)<|dP [41,7] O (oP 2 O O d)<|dP [39,40,42] O (bA rl M O O)<|dQ 2 O yO O g<|dP [43,45] O (bB GQ Lm O)<|dP [11] O (ae O d)<|dP [7] O (iO O M O)<|dP [48,7] O (oP 1 O O d)<|dP [7] O (iO O M O)<|dP [50,7] O (oP 2 O O d)<|dP [47,49,51] O (bA rl M O O)<|dQ 3 O yN O g<|dP [54] O (oC (qJ Gv) O)<|dP [52,55] O (bB GQ Lm O)<|dP [11] O (ae O d)<|dP [7] O (iO O M O)<|dP [58,7] O (oP 1 O O d)<|dP [11] O (ae O d)<|dP [57,59,60] O (bA rl M O O)<|dQ 2 O yO O g<|dP [63] O (oC (qJ JX) O)<|dP [61,64] O (bB GQ Lm O)<|dP [11] O (ae O d)<|dP [11] O (ae O d)<|dP [11] O (ae O d)<|dP [66,67,68] O (bA rl M O O)<|dQ 3 O yN O g<|dP [69,71] O (bB GQ Lm O)<|dP [46,56,65,72] O (sY (s':= .val (TL uY ([((my,my,x8.2.2),dz.2.2.1),((my,x8.2.1,x8.2.2),sE),((my,x8.2.1,my),yY),((my,my,my),dz.2.2.2)]:ard (V3×V3)))) (bS PB aji O O) O)<|dP [73] O (pW afo (aT O))<|dP [] O (HN aI)<|dN<|dE [8,12,73,74,75] O (by kernel_rfl)<|cD ?_
   refine ai<|jj [8,73,74] O (σ:=(ard (ate×ate×ate))×Int) (fun UP=>[(12,.buf 26 9 (lT cz UP.1)),(75,.val (TiZ UP.2))]) q O (fun k29 UP q=>?_)
   refine rS<|cL O O<|cF [8,12,73,74,75,76] O<|ah<|gc O q (fun acw q=>?_) fun acw q=>?_
   ·refine aj<|aw<|ah<|ai ?_
    obtain⟨vH,Fh,q⟩:=ab q;refine rS<|cP (oX ahh (dI O) O O Fh)<|cR O abP<|cT PB<|cs O O O abP<|cF [8,12,14,73,74,75] O ?_
    obtain⟨xd,Gu,sK,Gt,q⟩:=b2 q;refine gE 15 mixed<|dP [8] O (ae O DQ)<|dQ 0 O acU O g<|dP [80,82] O (oC (GW Gu) O)<|dQ 1 O Bc O g<|dQ 1 O acT O g<|dP [83,85,87] O (oC (KZ Gt) O)<|dP [88] O (vP O)<|dP [79] O (dW O O)<|dP [79] O (dW O O)<|dP [] O (gW zR)<|dS [15,89] O (ds O O O kv)<|dP [90] O (oA O)<|dN<|dE [8,12,15,16,73,74,75] O (by kernel_rfl)<|cD<|ah<|rS<|cM<|cP (da (aT O) aI)<|cF [8,12,15,16,73,74,75,92] O ?_
    refine gc O q (fun aiq q=>?_) fun aiq q=>?_
    ·refine rS<|cM<|cP (ba cz 26 9)<|cA<|ak 48 O ?_
     cases q;exact an (fi (ij (t:=4) O) (fX O O (bu.tmp O O (bu.tmp O O bu.nil))))
    ·refine aj (aw ?_);obtain⟨Fm,Um,q⟩:=ab q;refine rK<|cQ<|cU O kv<|cP (bS zR amf O O)<|cS (dp abW amk (dI O) O O (aT O) Um (bU O))<|cS (bt O O (bU O) _ (Or.inl O))<|cF [8,12,73,74,75] O (aw ?_)
     obtain⟨WN,h41,q⟩:=ab q;exact rK<|cH O h41<|cO (oM O)<|cF [8,12,73,74,75] O (cm q O)
   ·refine aN<|aw<|rS<|cQ<|cG (ij (t:=12) O)<|cG (jL (s:=99) O O)<|cA<|cI<|ak 48 O ?_
    cases q;exact an (r2 O)
def KQ{a0 a1 r}(q:CC a0 a1=some r):al prog 29 [(TL TS) a0,(TL TS) a1] (.vs [aY r]):=by
 refine c7 func29 O ntmps29 (by kernel_rfl) fun w0 H0=>rS<|cB<|ak 3 O<|ah<|rS<|cM<|cJ JM O<|cM<|cJ JM O<|cP (da (aT O) (aT O))<|ak 1027 O<|gc O q (fun hb1 q=>?_) fun hb1 q=>?_
 ·refine rS<|cB<|cF [4] O ?_
  cases q;exact an (r1 O)
 ·refine aj<|aw<|ah<|rS<|cI<|ak 35 O<|ai<|jj [0,1] O (σ:=Int) (fun s2=>[(5,.val (TiZ s2))]) q O (fun k3 s2 q=>?_)
  refine ah<|rS<|cM<|cM<|cJ JM O<|cL O O<|ak 16419 O<|gc O q (fun Lf q=>?_) fun Lf q=>?_
  ·refine aj<|aw<|ah<|ai ?_
   obtain⟨x5,h6,x7,h8,q⟩:=b2 q;refine gE 9 mixed<|dP [0] O (oM O)<|dP [5] O (oM O)<|dP [17,18] O (oX PQ (dI O) O O h6)<|dP [19] O (aU (aT O) X)<|dP [1] O (oM O)<|dP [5] O (oM O)<|dP [21,22] O (oX PQ (dI O) O O h8)<|dP [23] O (aU (aT O) X)<|dP [20,24] O (Nw (aT O) (aT O))<|dN<|dE [0,1,5,25] O (by kernel_rfl)<|cD<|gc O q (fun N0 q=>?_) fun N0 q=>?_
   ·refine rS<|cB<|cF [4] O ?_
    cases q;exact an (r1 O)
   ·refine aj (aw ?_);obtain⟨dz,jv,q⟩:=ab q;exact rK<|cM<|cH O jv<|cO (oA O)<|ak 35 O (cm q O)
  ·refine aN<|aw<|rS<|cB<|cF [4] O ?_
   cases q;exact an (r1 O)
def pQ{a0 a1 a2 a3 a4 r}(q:mn a0 a1 a2 a3 a4=some r):al prog 30 [TS a0,TS a1,TS a2,TS a3,aY a4] (.vs [gn r]):=by
 unfold mn at q;refine c7 func30 O ntmps30 (by kernel_rfl) fun w0 H0=>rS<|cT FW<|ak 1055 O<|rS<|cM<|cM<|cP (bA nY ni O O)<|cM<|cM<|cP (bA nY ni O O)<|cM<|cP (bB FW aaM O)<|cs O O O FQ<|cF [10] O ?_
 cases q;exact an (q1 O FQ)
def G3{a0 a1 r}(q:zp a0 a1=some r):al prog 31 [(TL gn) a0,(TL gn) a1] (.vs [aY r]):=by
 refine c7 func31 O ntmps31 (by kernel_rfl) fun w0 H0=>rS<|cB<|ak 3 O<|ah<|rS<|cM<|cJ Gl O<|cM<|cJ Gl O<|cP (da (aT O) (aT O))<|ak 1027 O<|gc O q (fun hb1 q=>?_) fun hb1 q=>?_
 ·refine rS<|cB<|cF [4] O ?_
  cases q;exact an (r1 O)
 ·refine aj<|aw<|ah<|rS<|cI<|ak 35 O<|ai<|jj [0,1] O (σ:=Int) (fun s2=>[(5,.val (TiZ s2))]) q O (fun k3 s2 q=>?_)
  refine ah<|rS<|cM<|cM<|cJ Gl O<|cL O O<|ak 16419 O<|gc O q (fun Lf q=>?_) fun Lf q=>?_
  ·refine aj<|aw<|ah<|ai ?_
   obtain⟨x5,h6,x7,h8,q⟩:=b2 q;refine gE 9 mixed<|dP [0] O (oM O)<|dP [5] O (oM O)<|dP [17,18] O (oX S5 (dI O) O O h6)<|dP [19] O (aU (aT O) FQ)<|dP [1] O (oM O)<|dP [5] O (oM O)<|dP [21,22] O (oX S5 (dI O) O O h8)<|dP [23] O (aU (aT O) FQ)<|dP [20,24] O (Vz al6 (aT O) (aT O))<|dN<|dE [0,1,5,25] O (by kernel_rfl)<|cD<|gc O q (fun N0 q=>?_) fun N0 q=>?_
   ·refine rS<|cB<|cF [4] O ?_
    cases q;exact an (r1 O)
   ·refine aj (aw ?_);obtain⟨dz,jv,q⟩:=ab q;exact rK<|cM<|cH O jv<|cO (oA O)<|ak 35 O (cm q O)
  ·refine aN<|aw<|rS<|cB<|cF [4] O ?_
   cases q;exact an (r1 O)
def zY[OI]{r:Bool}(q:nW=some r):al prog 6 [] (.vs [aY r]):=by
 refine c7 func6 O ntmps6 (by kernel_rfl) fun w0 H0=>rS<|cB<|cF [] O ?_
 obtain⟨x1,h2,x3,h4,q⟩:=b2 q;refine rS<|cP (fL (Da h2) (aJ.cons (Arg.s O) (aJ.cons (Arg.s O) (aJ.cons (Arg.s O) (aJ.cons (Arg.s O) (aJ.cons (Arg.s O) (aJ.cons (Arg.s O) aJ.nil)))))))<|cP (sY (s':= .val (TL (TL bz) ([x1]:ard (ard ((Int×Int×Int)×adx))))) (bS U4 adj O O) O)<|cP (fL (Da h4) (aJ.cons (Arg.s O) (aJ.cons (Arg.s O) (aJ.cons (Arg.s O) (aJ.cons (Arg.s O) (aJ.cons (Arg.s O) (aJ.cons (Arg.s O) aJ.nil)))))))<|cP (sY (s':= .val (TL (TL bz) ([x3]:ard (ard ((Int×Int×Int)×adx))))) (bS U4 adj O O) O)<|cA<|cA<|ak 6 O ?_
 obtain⟨x5,h6,q⟩:=ab q;refine rS<|cP (fL (Da h6) (aJ.cons (Arg.s O) (aJ.cons (Arg.s O) (aJ.cons (Arg.s O) (aJ.cons (Arg.s O) (aJ.cons (Arg.s O) (aJ.cons (Arg.s O) aJ.nil)))))))<|cA<|ak 14 O ?_
 obtain⟨x7,h8,x9,kG,iM,qC,q⟩:=b3 q;refine rS<|cC (vg h8) O<|cC (gL kG) O<|cC (Hd qC) O<|cZ<|cE<|cE<|cT nY<|cs O O O px<|cA<|ak 62 O ?_
 obtain⟨iW,nJ,kd,S,iP,T,q⟩:=b3 q;refine rS<|cC (vg nJ) O<|cC (gL S) O<|cC (He T) O<|cZ<|cE<|cE<|cA<|cA<|ak 254 O ?_
 obtain⟨ju,Z,kQ,wb,q⟩:=b2 q;refine rS<|cM<|cM<|cP (bS aaC agR O O)<|cC (vg Z) O<|cC (QO wb) O<|cZ<|cE<|cE<|cA<|cA<|ak 1022 O ?_
 obtain⟨kP,wP,q⟩:=ab q;refine rS<|cM<|cC (QQ wP) O<|cZ<|cE<|cE<|cA<|cA<|ak 4094 O ?_
 obtain⟨nZ,Ba,oN,CP,q⟩:=b2 q;refine rS<|cM<|cC (G8 Ba) O<|cC (O5 CP) O<|cZ<|cE<|cE<|cA<|cA<|ak 16382 O ?_
 obtain⟨Ax,IM,vH,Fh,q⟩:=b2 q;refine rS<|cM<|cP (bS U4 adj O O)<|cC (G8 IM) O<|cC (MT Fh) O<|cZ<|cE<|cE<|cA<|cA<|ak 65526 O ?_
 obtain⟨xd,Gu,q⟩:=ab q;refine rS<|cM<|cC (SQ Gu) O<|cZ<|cE<|cE<|cA<|cA<|ak 262134 O ?_
 obtain⟨sK,Gt,xc,JV,q⟩:=b2 q;refine rS<|cM<|cC (gL Gt) O<|cC (QR JV) O<|cZ<|cE<|cE<|cA<|cA<|ak 1048566 O ?_
 obtain⟨sf,Gs,q⟩:=ab q;refine rS<|cM<|cC (QN Gs) O<|cZ<|cE<|cE<|cA<|cA<|ak 4194294 O ?_
 obtain⟨AF,Li,AE,Pr,q⟩:=b2 q;refine rS<|cM<|cM<|cP (bS aaC agR O O)<|cC (vg Li) O<|cP (vR jR jC (uc O (uc O (uc O un))) (iy.cons (i:=0) (Arg.s O) O O (iy.cons (i:=1) (Arg.s O) O O (iy.cons (i:=2) (Arg.s O) O O iy.nil))))<|cC (O6 Pr) O<|cZ<|cE<|cE<|cA<|cA<|ak 16777200 O ?_
 obtain⟨PG,ZQ,Lk,Sy,KH,h50,J7,Ul,FX,Uk,Ms,h56,q⟩:=b6 q;refine rS<|cC (sN ZQ) O<|cC (gL Sy) O<|cC (gL h50) O<|cC (gL Ul) O<|cP (bB agX ahc O)<|cC (gL Uk) O<|cC (QP h56) O<|cZ<|cE<|cE<|cA<|cA<|ak 67108848 O<|ah ?_
 obtain⟨x57,h58,x59,h60,x61,h62,Yx,h64,x65,h66,x67,h68,q⟩:=b6 q;obtain⟨Yw,h70,Yv,h72,KG,h74,x75,h76,q⟩:=b4 q;obtain⟨x77,h78,q⟩:=aH q;obtain⟨PD,h80,q⟩:=aH q;refine rS<|cM<|cM<|cP (bR (aT O) (aT O) h58)<|cM<|cP (bR (aT O) (aT O) h60)<|cM<|cP (bR (aT O) (aT O) h62)<|cM<|cP (bR (aT O) (aT O) h64)<|cM<|cP (bR (aT O) (aT O) h66)<|cM<|cP (bR (aT O) (aT O) h68)<|cM<|cP (bR (aT O) (aT O) h70)<|cM<|cP (bR (aT O) (aT O) h72)<|cM<|cP (bR (aT O) (aT O) h74)<|cM<|cP (bR (aT O) (aT O) h76)<|cP (da (aT O) aI)<|cM<|gV O O (ov 4 O on) (fun rW=>ae O px)<|gV O O on (fun hg2=>sY (s':= .val (eh (([49]:adx),([51]:adx)))) (vR nY ni (uc O (uc O un)) (iy.cons (i:=0) (Arg.s O) O O (iy.cons (i:=1) (Arg.s O) O O iy.nil))) O)<|gV O O (oo 128 O id (oo 129 O id on)) (fun P=>Vz X8 (aT O) (aT O))<|cP (fO (aT O) O jY)<|cM<|gV O O (ov 6 O on) (fun wk=>oM O)<|gV O O (oo 133 O id on) (fun Az=>Nw (aT O) (Arg.s O))<|cP (fO (aT O) O jY)<|cM<|gV O O (ov 10 O on) (fun CL=>oM O)<|gV O O (oo 137 O id on) (fun JQ=>pW abX (aT O))<|gV O O (oo 138 O id on) (fun OQ=>da (aT O) aI)<|cP (fO (aT O) O jY)<|cM<|gV O O (ov 12 O on) (fun Pn=>oM O)<|gV O O (oo 142 O id on) (fun Ff=>Nw (aT O) (Arg.s O))<|cP (fO (aT O) O jY)<|cM<|gV O O (ov 16 O on) (fun Le=>oM O)<|gV O O (oo 146 O id on) (fun Fe=>Nw (aT O) (Arg.s O))<|cP (fO (aT O) O jY)<|cM<|gV O O (ov 22 O on) (fun Ld=>oM O)<|gV O O (oo 150 O id on) (fun NZ=>jF (aT O))<|cP (fO (aT O) O jY)<|cM<|gV O O (ov 14 O on) (fun Po=>oM O)<|gV O O (oo 154 O id on) (fun RZ=>pW Gk (aT O))<|gV O O (oo 155 O id on) (fun V9=>da (aT O) aI)<|cP (fO (aT O) O jY)<|cM<|gV O O (ov 14 O on) (fun ZL=>oM O)<|gV O O (oo 159 O id on) (fun acn=>kS W8 (dI O) (aT O) aI (h78 acn))<|gV O O (oo 160 O id on) (fun aih=>aU (aT O) px)<|gV O O on (fun aif=>sY (s':= .val (eh (([45,49,47,50]:adx),([49,47,54]:adx)))) (vR nY ni (uc O (uc O un)) (iy.cons (i:=0) (Arg.s O) O O (iy.cons (i:=1) (Arg.s O) O O iy.nil))) O)<|gV O O (oo 161 O id (oo 162 O id on)) (fun afy=>Vz X8 (aT O) (aT O))<|cP (fO (aT O) O jY)<|cM<|gV O O (ov 18 O on) (fun acm=>oM O)<|gV O O on (fun aie=>Ae QA adi O O O (iy.cons (i:=0) (Arg.s O) O O (iy.cons (i:=1) (Arg.s O) O O iy.nil)) O)<|gV O O (oo 166 O id (oo 167 O id on)) (fun ack=>oC (KQ (h80 ack)) O)<|gV O O (oo 168 O id on) (fun aon=>jF (aT O))<|cP (fO (aT O) O jY)<|cF [8,20,24,170] O ?_
 refine gc O q (fun aim q=>?_) fun aim q=>?_
 ·refine rS<|cB<|ak 1 O ?_
  cases q;exact an (r1 O)
 ·refine aj (aw ?_);obtain⟨x82,h83,PC,h85,x86,h87,x88,h89,x90,h91,x92,h93,q⟩:=b6 q;refine rS<|cP (fL (pQ h83) (aJ.cons (Arg.s O) (aJ.cons (Arg.s O) (aJ.cons (Arg.s O) (aJ.cons (Arg.s O) (aJ.cons aB aJ.nil))))))<|cP (fL (pQ h85) (aJ.cons (Arg.s O) (aJ.cons (Arg.s O) (aJ.cons (Arg.s O) (aJ.cons (Arg.s O) (aJ.cons aB aJ.nil))))))<|cP (fL (pQ h87) (aJ.cons (Arg.s O) (aJ.cons (Arg.s O) (aJ.cons (Arg.s O) (aJ.cons (Arg.s O) (aJ.cons aB aJ.nil))))))<|cP (fL (pQ h89) (aJ.cons (Arg.s O) (aJ.cons (Arg.s O) (aJ.cons (Arg.s O) (aJ.cons (Arg.s O) (aJ.cons aB aJ.nil))))))<|cP (fL (pQ h91) (aJ.cons (Arg.s O) (aJ.cons (Arg.s O) (aJ.cons (Arg.s O) (aJ.cons (Arg.s O) (aJ.cons aB aJ.nil))))))<|cP (fL (pQ h93) (aJ.cons (Arg.s O) (aJ.cons (Arg.s O) (aJ.cons (Arg.s O) (aJ.cons (Arg.s O) (aJ.cons aB aJ.nil))))))<|cP (sY (s':= .val (TL gn ([x82,PC,x86,x88,x90,x92]:ard ((adx×adx)×(adx×adx)×Bool)))) (bS FW agS O O) O)<|cA<|ak 84934912 O ?_
  obtain⟨WJ,h95,q⟩:=ab q;obtain⟨Yt,h97,q⟩:=aH q;obtain⟨x98,h99,q⟩:=aH q;obtain⟨ag4,apD,q⟩:=aH q;obtain⟨ag3,apC,q⟩:=aH q;obtain⟨SH,aiT,q⟩:=aH q;refine gE 29 mixed<|dP [8] O (oM O)<|dP [26] O (oM O)<|dP [178,179] O (oC (G3 h95) O)<|dP [180] O (oM O)<|dV [20,181] O O O (ov 20 O on) (fun aom=>oM O)<|dV [181,182] O O O (oo 182 O id on) (fun aol=>fy U (aT O))<|dV [181,183] O O O (oo 183 O id on) (fun alf=>cq (aT O) aI)<|dP [181,184] O (dh (aT O) O je)<|dP [185] O (oM O)<|dV [20,186] O O O (ov 20 O on) (fun ale=>oM O)<|dV [186,187] O O O (oo 187 O id on) (fun ald=>fY U (aT O) Lo.none (Lo.some aI) (h97 ald))<|dV [186,188] O O O (oo 188 O id on) (fun alc=>uA (aT O) (Arg.s O))<|dP [186,189] O (dh (aT O) O je)<|dP [190] O (oM O)<|dV [24,191] O O O (ov 24 O on) (fun aok=>oM O)<|dV [191,192] O O O (oo 192 O id on) (fun aoj=>pW abW (aT O))<|dV [191,193] O O O (oo 193 O id on) (fun aoi=>df (aT O) aI)<|dP [191,194] O (dh (aT O) O je)<|dP [195] O (oM O)<|dV [24,196] O O O (ov 24 O on) (fun alb=>oM O)<|dV [196,197] O O O (oo 197 O id on) (fun aid=>kS ake (dI O) (aT O) aI (h99 aid))<|dV [196,198] O O O (oo 198 O id on) (fun aoh=>aU (aT O) kv)<|dV [196] O O O on (fun ala=>oC (gL (apD ala)) O)<|dV [196] O O O on (fun aic=>oC (gL (apC aic)) O)<|dV [196] O O O on (fun ak9=>oC (gL (aiT ak9)) O)<|dV [196,200,201,202] O O O (oo 200 O id (oo 201 O id (oo 202 O id on))) (fun aog=>sY (s':= .val (cz (ag4,ag3,SH))) (bB zR M5 O) O)<|dV [196,199,203] O O O (oo 199 O id (oo 203 O id on)) (fun asc=>Rn al7 (aT O) (aT O))<|dP [196,204] O (dh (aT O) O je)<|dP [205] O (oA O)<|dN<|dE [0] O (by kernel_rfl)<|cD ?_
  cases q;exact an (r1 O)
def zT{a0 r}(q:iD a0=some r):al prog 186 [TS a0] (.vs [TiZ r]):=by
 refine c7 func186 O ntmps186 (by kernel_rfl) fun w0 H0=>rS<|cI<|ak 1 O<|ah<|rS<|cI<|ak 9 O<|ai<|gl (σ:=Int) (fun s1=>[(0,.val (TS a0)),(3,.val (TiZ s1))]) q O (fun k2 s1 q=>?_)
 refine ah<|rS<|cM<|cM<|cP (fy U (aT O))<|cL O O<|ak 137 O<|gc O q (fun hb3 q=>?_) fun hb3 q=>?_
 ·refine aj<|aw<|ah<|ai ?_
  obtain⟨x4,h5,q⟩:=ab q;refine rS<|cM<|cM<|cP (pX U (aT O) (aT O) h5)<|cP (df (aT O) aI)<|ak 8201 O<|gc O q (fun Pp q=>?_) fun Pp q=>?_
  ·refine rS<|cM<|cA<|ak 4 O ?_
   cases q;exact an (r1 O)
  ·refine aj (aw ?_);obtain⟨x7,h8,q⟩:=ab q;exact rK<|cM<|cH O h8<|cO (oA O)<|ak 9 O (cm q O)
 ·refine aN<|aw<|rS<|cM<|cP (fy U (aT O))<|cA<|ak 4 O ?_
  cases q;exact an (r1 O)
def MC{a0 r}(q:tl a0=some r):al prog 266 [TS a0] (.vs [aY r]):=by
 refine c7 func266 O ntmps266 (by kernel_rfl) fun w0 H0=>rS<|cB<|ak 1 O<|ah<|rS<|cI<|ak 9 O<|ai<|gl (σ:=Int) (fun s1=>[(0,.val (TS a0)),(3,.val (TiZ s1))]) q O (fun k2 s1 q=>?_)
 refine ah<|rS<|cM<|cM<|cP (fy U (aT O))<|cL O O<|ak 137 O<|gc O q (fun hb3 q=>?_) fun hb3 q=>?_
 ·refine aj<|aw<|ah<|ai ?_
  obtain⟨x4,h5,q⟩:=ab q;obtain⟨x6,h7,q⟩:=aH q;refine rS<|cM<|cM<|cP (pX U (aT O) (aT O) h5)<|cP (eC (aT O) aI)<|cM<|gV O O (ov 0 O on) (fun rW=>oM O)<|gV O O (ov 3 O on) (fun hg2=>oM O)<|gV O O (oo 15 O id (oo 16 O id on)) (fun P=>pX U (aT O) (aT O) (h7 P))<|gV O O (oo 17 O id on) (fun wk=>cq (aT O) aI)<|cP (fO (aT O) O jY)<|ak 524297 O<|gc O q (fun Y q=>?_) fun Y q=>?_
  ·refine rS<|cB<|ak 4 O ?_
   cases q;exact an (r1 O)
  ·refine aj (aw ?_);obtain⟨x9,kG,q⟩:=ab q;exact rK<|cM<|cH O kG<|cO (oA O)<|ak 9 O (cm q O)
 ·refine aN<|aw<|rS<|cB<|ak 4 O ?_
  cases q;exact an (r1 O)
def wV{a0 r}(q:kM a0=some r):al prog 187 [TS a0] (.vs [aY r]):=by
 refine c7 func187 O ntmps187 (by kernel_rfl) fun w0 H0=>rS<|cB<|ak 1 O<|ah ?_
 obtain⟨x1,h2,q⟩:=aH q;refine rS<|cM<|cP (fy U (aT O))<|cP (df (aT O) aI)<|cM<|gV O O (ov 0 O on) (fun rW=>oM O)<|gV O O (oo 7 O id on) (fun hg2=>fy U (aT O))<|gV O O (oo 8 O id on) (fun P=>cq (aT O) aI)<|gV O O (oo 9 O id on) (fun wk=>oM O)<|gO O O (ov 0 O on) (fun Az=>oM O)<|gO O O (oo 11 O id on) (fun CL=>pX U (aT O) aI (h2 CL))<|gO O O (oo 12 O id on) (fun JQ=>df (aT O) aI)<|gV O O (oo 10 O id (ov 13 O on)) (fun OQ=>dh (aT O) O (fun h=>D9 (id OQ) (je h)))<|cP (fO (aT O) O jY)<|cF [0,15] O ?_
 refine gc O q (fun hb3 q=>?_) fun hb3 q=>?_
 ·refine rS<|cB<|ak 4 O ?_
  cases q;exact an (r1 O)
 ·refine aj (aw ?_);obtain⟨x4,h5,q⟩:=ab q;refine rS<|cM<|cC (MC h5) O<|cA<|ak 4 O ?_
  cases q;exact an (r1 O)
def u7{a0 r}(q:ic a0=some r):al prog 257 [TS a0] (.vs [TiZ r]):=by
 refine c7 func257 O ntmps257 (by kernel_rfl) fun w0 H0=>rS<|cI<|ak 1 O<|rS<|cI<|ak 9 O<|ah<|rS<|cI<|ak 25 O<|ai<|gl (σ:=Int×Int) (fun s1=>[(0,.val (TS a0)),(3,.val (TiZ s1.1)),(4,.val (TiZ s1.2))]) q O (fun k2 s1 q=>?_)
 refine ah<|rS<|cM<|cM<|cP (fy U (aT O))<|cL O O<|ak 281 O<|gc O q (fun hb3 q=>?_) fun hb3 q=>?_
 ·refine aj<|aw<|ah<|ai ?_
  obtain⟨x4,h5,x6,h7,x8,h9,dz,jv,q⟩:=b4 q;refine rK<|cM<|cP (oz aI (aT O) h5)<|cM<|cM<|cP (pX U (aT O) (aT O) h7)<|cP (vQ akD Ky (aT O))<|cP (bR (aT O) (aT O) h9)<|cP (bn (aT O) aI jv)<|cO (oA O)<|ak 25 O (aw ?_)
  obtain⟨fp,kU,q⟩:=ab q;exact rK<|cM<|cH O kU<|cO (oA O)<|ak 25 O (cm q O)
 ·refine aN<|aw<|rS<|cM<|cA<|ak 4 O ?_
  cases q;exact an (r1 O)
def zU{a0 r}(q:lh a0=some r):al prog 259 [TS a0] (.vs [bh r]):=by
 refine c7 func259 O ntmps259 (by kernel_rfl) fun w0 H0=>rS<|cT j3<|ak 5 O ?_
 obtain⟨x1,h2,q⟩:=aH q;refine rS<|cM<|cP (fy U (aT O))<|cP (cq (aT O) aI)<|cM<|gV O O (ov 0 O on) (fun rW=>oM O)<|gV O O (oo 9 O id on) (fun hg2=>pX U (aT O) aI (h2 hg2))<|gV O O (oo 10 O id on) (fun P=>df (aT O) aI)<|cP (dh (aT O) O je)<|cA<|ak 13 O<|ah<|rS<|cM<|ak 8205 O<|uU [2,3] O (α:=adx) (fun s3=>[(0,.val (TS s3))]) q (fun k4 q=>?_) (fun s3 q=>?_)
 ·refine gc O q (fun CN q=>?_) fun CN q=>?_
  ·obtain⟨x6,h7,q⟩:=ab q;exact rK<|cM<|cP (fY U (aT O) (Lo.some aI) Lo.none h7)<|cO (oA O)<|ak 13 O (cm q O)
  ·exact aj (cm q O)
 ·refine aw ?_;refine rS<|cP (ba TiZ 3 1)<|ak 29 O<|ah<|ai<|jj [2,3] O (σ:=adx×ard Int) (fun s8=>[(0,.val (TS s8.1)),(4,.buf 3 1 (lT TiZ s8.2))]) q O (fun k9 s8 q=>?_)
  refine ah<|rS<|cM<|cP (fy U (aT O))<|cP (cq (aT O) aI)<|ak 262173 O<|gc O q (fun wO q=>?_) fun wO q=>?_
  ·refine aj<|aw<|ai ?_
   obtain⟨iM,qC,iW,nJ,kd,S,iP,T,q⟩:=b4 q;refine rS<|cQ<|cM<|cM<|cP (fy U (aT O))<|cP (bn (aT O) aI qC)<|cP (fY U (aT O) (Lo.some (aT O)) Lo.none nJ)<|cC (u7 S) O<|cP (bS oW rZ O O)<|cS (dp dF GH (dI O) O O (aT O) T (bU O))<|cS (bt O O (bU O) _ (Or.inl O))<|ak 29 O ?_
   obtain⟨ju,Z,kQ,wb,q⟩:=b2 q;exact rK<|cM<|cM<|cP (fy U (aT O))<|cP (bn (aT O) aI Z)<|cP (fY U (aT O) Lo.none (Lo.some (aT O)) wb)<|cO (oA O)<|ak 29 O (cm q O)
  ·refine aN (aw ?_);obtain⟨kP,wP,nZ,Ba,oN,CP,q⟩:=b3 q;refine rS<|cM<|cQ<|cM<|cC (u7 wP) O<|cP (bS oW rZ O O)<|cS (dp dF GH (dI O) O O (aT O) Ba (bU O))<|cG (ij (t:=38) O)<|cC (jl CP) O<|cs O O O eF<|ak 4 O ?_
   cases q;exact an (q1 O eF)
def nR{a0 r}(q:ie a0=some r):al prog 182 [TS a0] (.vs [bh r.1,bh r.2]):=by
 refine c7 func182 O ntmps182 (by kernel_rfl) fun w0 H0=>rS<|cT j3<|cT j3<|ak 13 O<|rS<|cM<|cA<|ak 28 O ?_
 obtain⟨x1,h2,q⟩:=ab q;refine rS<|cM<|cC (zT h2) O<|cA<|ak 60 O<|ah<|rS<|cM<|cM<|cP (fy U (aT O))<|cP (df (aT O) (aT O))<|ak 4156 O<|gc O q (fun hb3 q=>?_) fun hb3 q=>?_
 ·obtain⟨x4,h5,x6,h7,q⟩:=b2 q;refine rS<|cM<|cC (zU h5) O<|cC (u6 h7) O<|cs O O O eF<|cs O O O eF<|ak 12 O ?_
  cases q;exact an (fX O O (bu.cell O (sB eF) O (bu.cell O (sB eF) O bu.nil)))
 ·refine aj (aw ?_);obtain⟨x8,h9,dz,jv,fp,kU,gp,mu,gS,Q,q⟩:=b5 q;refine gE 11 mixed<|dP [4] O (oM O)<|dP [5] O (oM O)<|dP [16,17] O (fY U (aT O) Lo.none (Lo.some (aT O)) h9)<|dP [18] O (oC (zU jv) O)<|dP [4] O (oM O)<|dP [5] O (oM O)<|dP [21] O (bR (aT O) aI kU)<|dP [20,22] O (fY U (aT O) (Lo.some (aT O)) Lo.none mu)<|dP [23] O (oC (zU Q) O)<|dS [2,19] O (ds O O O eF)<|dS [3,24] O (ds O O O eF)<|dN<|dE [2,3] O (by kernel_rfl)<|cD ?_
  cases q;exact an (fX O O (bu.cell O (sB eF) O (bu.cell O (sB eF) O bu.nil)))
def ue{a0 a1 r}(q:jO a0 a1=some r):al prog 263 [(TL TiZ) a0,(TL TiZ) a1] (.vs [TiZ r]):=by
 refine c7 func263 O ntmps263 (by kernel_rfl) fun w0 H0=>rS<|cI<|ak 3 O<|ah<|rS<|cM<|cJ dF O<|cM<|cJ dF O<|cP (da (aT O) (aT O))<|ak 1027 O<|gc O q (fun hb1 q=>?_) fun hb1 q=>?_
 ·refine ah<|rS<|cM<|cJ dF O<|cM<|cJ dF O<|cL O O<|cF [15] O<|gc O q (fun hb2 q=>?_) fun hb2 q=>?_
  ·refine rS<|cI<|cF [4] O ?_
   cases q;exact an (r1 O)
  ·refine aj<|aw<|rS<|cI<|cF [4] O ?_
   cases q;exact an (r1 O)
 ·refine aj<|aw<|ah ?_
  obtain⟨x3,h4,q⟩:=ab q;refine rS<|cM<|cJ dF O<|cP (bn (aT O) aI h4)<|cA<|ak 35 O<|ai<|jj [0,1] O (σ:=Int) (fun s5=>[(5,.val (TiZ s5))]) q O (fun k6 s5 q=>?_)
  refine ah<|rS<|cM<|cP (jG (aT O) aI)<|ak 1048611 O<|gc O q (fun A9 q=>?_) fun A9 q=>?_
  ·refine aj<|aw<|ah<|ai<|ah ?_
   obtain⟨x8,h9,dz,jv,q⟩:=b2 q;refine gE 9 mixed<|dP [0] O (oM O)<|dP [5] O (oM O)<|dP [23,24] O (oX eT (dI O) O O h9)<|dP [25] O (aU (aT O) C)<|dP [1] O (oM O)<|dP [5] O (oM O)<|dP [27,28] O (oX eT (dI O) O O jv)<|dP [29] O (aU (aT O) C)<|dP [26,30] O (eC (aT O) (aT O))<|dN<|dE [0,1,5,31] O (by kernel_rfl)<|cD<|gc O q (fun JT q=>?_) fun JT q=>?_
   ·refine rS<|cI<|cF [4] O ?_
    cases q;exact an (r1 O)
   ·refine aj (aw ?_);obtain⟨iW,nJ,kd,S,q⟩:=b2 q;refine gE 9 mixed<|dP [0] O (oM O)<|dP [5] O (oM O)<|dP [32,33] O (oX eT (dI O) O O nJ)<|dP [34] O (aU (aT O) C)<|dP [1] O (oM O)<|dP [5] O (oM O)<|dP [36,37] O (oX eT (dI O) O O S)<|dP [38] O (aU (aT O) C)<|dP [35,39] O (cq (aT O) (aT O))<|dN<|dE [0,1,5,40] O (by kernel_rfl)<|cD<|gc O q (fun JS q=>?_) fun JS q=>?_
    ·refine rS<|cI<|cF [4] O ?_
     cases q;exact an (r1 O)
    ·refine aj (aw ?_);obtain⟨iZ,qi,q⟩:=ab q;exact rK<|cM<|cP (bn (aT O) aI qi)<|cO (oA O)<|ak 35 O (cm q O)
  ·refine aN<|aw<|rS<|cI<|cF [4] O ?_
   cases q;exact an (r1 O)
def AI{a0 a1 r}(q:mV a0 a1=some r):al prog 318 [(TL TiZ) a0,TiZ a1] (.vs [(TL TiZ) r.1,TiZ r.2]):=by
 refine c7 func318 O ntmps318 (by kernel_rfl) fun w0 H0=>?_
 refine rS<|cP (aA (Arg.nn (f:=TiZ)))<|cI<|ak 3 O ?_
 obtain⟨x1,h2,q⟩:=ab q;refine rS<|cM<|cJ dF O<|cP (FH TiZ abB oW O (aT O) (aT O) h2)<|cS (bt O O (bU O) _ (Or.inl O))<|ak 67 O ?_
 refine rS<|cI<|ak 195 O ?_
 refine ah ?_;obtain⟨x3,h4,q⟩:=ab q;refine rS<|cM<|cJ dF O<|cP (bn (aT O) aI h4)<|cA<|ak 451 O ?_
 refine ai<|jj [0,1] O (σ:=ard Int×Int×Int) (fun s5=>[(6,.buf 3 1 (lT TiZ s5.1)),(7,.val (TiZ s5.2.1)),(8,.val (TiZ s5.2.2))]) q O (fun k6 s5 q=>?_)
 refine ah<|rS<|cM<|cP (jG (aT O) aI)<|ak 131523 O ?_
 refine gc O q (fun A9 q=>?_) fun A9 q=>?_
 ·refine aj<|aw<|ah<|ai ?_
  obtain⟨x8,h9,dz,jv,fp,kU,q⟩:=b3 q;refine rS<|cM<|cP (oz (aT O) aI h9)<|cM<|cM<|cP (oX eT (dI O) O O jv)<|cR O C<|cP (bR (aT O) (aT O) kU)<|cA<|ak 835 O ?_
  obtain⟨gp,mu,gS,Q,iZ,qi,q⟩:=b3 q;refine rS<|cQ<|cM<|cM<|cM<|cP (rq (aT O) (aT O) mu)<|cP (dK eT O O (aT O) Q)<|cS (o8 (f:=TiZ) (fun _=>O) O O (bF qi) (aT O) C)<|ak 835 O ?_
  obtain⟨kR,h21,q⟩:=ab q;refine rK<|cM<|cM<|cP (mQ (aT O) (aT O) h21)<|cA<|ak 451 O (aw ?_)
  obtain⟨my,Cf,q⟩:=ab q;exact rK<|cM<|cP (bn (aT O) aI Cf)<|cO (oA O)<|ak 451 O (cm q O)
 ·refine aN (aw ?_);obtain⟨sE,Gv,q⟩:=ab q;refine rS<|cQ<|cG (ij (t:=6) O)<|cG (jL (s:=36) O O)<|cC (ny Gv) O<|cM<|cA<|cA<|ak 48 O ?_
  cases q;exact an (r2 O)
def sL{a0 a1 r}(q:kn a0 a1=some r):al prog 265 [(TL TiZ) a0,(TL TiZ) a1] (.vs [(TL TiZ) r]):=by
 refine c7 func265 O ntmps265 (by kernel_rfl) fun w0 H0=>?_
 refine rS<|cP (aA (Arg.nn (f:=TiZ)))<|ak 3 O ?_
 obtain⟨x1,h2,x3,h4,q⟩:=b2 q;refine rS<|cM<|cJ dF O<|cM<|cJ dF O<|cP (bR (aT O) (aT O) h2)<|cP (FH TiZ abB oW O (aT O) (aT O) h4)<|cS (bt O O (bU O) _ (Or.inl O))<|ak 35 O ?_
 refine ah<|rS<|cI<|ak 99 O ?_
 refine ai<|jj [0,1] O (σ:=ard Int×Int) (fun s5=>[(5,.buf 3 1 (lT TiZ s5.1)),(6,.val (TiZ s5.2))]) q O (fun k6 s5 q=>?_)
 refine ah<|rS<|cM<|cM<|cJ dF O<|cL O O<|ak 524387 O ?_
 refine gc O q (fun A9 q=>?_) fun A9 q=>?_
 ·refine aj<|aw<|ah<|ai<|rS<|cI<|ak 227 O ?_
  refine ah<|rS<|cI<|ak 483 O ?_
  refine ai<|jj [0,1,6] O (σ:=ard Int×Int×Int) (fun s8=>[(5,.buf 3 1 (lT TiZ s8.1)),(7,.val (TiZ s8.2.1)),(8,.val (TiZ s8.2.2))]) q O (fun k9 s8 q=>?_)
  refine ah<|rS<|cM<|cM<|cJ dF O<|cL O O<|ak 33554915 O ?_
  refine gc O q (fun wO q=>?_) fun wO q=>?_
  ·refine aj<|aw<|ah<|ai ?_
   obtain⟨iM,qC,iW,nJ,kd,S,iP,T,ju,Z,kQ,wb,q⟩:=b6 q;obtain⟨kP,wP,nZ,Ba,q⟩:=b2 q;refine gE 19 mixed<|dP [5] O (eI)<|dP [6] O (oM O)<|dP [8] O (oM O)<|dP [29,30] O (bR (aT O) (aT O) qC)<|dP [28,31,5] O (dK eT O O (aT O) nJ)<|dP [32,5] O (og (f:=TiZ) (fun _=>O) O O (bF S) C)<|dP [0] O (oM O)<|dP [6] O (oM O)<|dP [34,35] O (oX eT (dI O) O O T)<|dP [36] O (aU (aT O) C)<|dP [1] O (oM O)<|dP [8] O (oM O)<|dP [38,39] O (oX eT (dI O) O O Z)<|dP [40] O (aU (aT O) C)<|dP [37,41] O (oz (aT O) (aT O) wb)<|dP [33,42] O (bR (aT O) (aT O) wP)<|dP [7] O (oM O)<|dP [43,44] O (bR (aT O) (aT O) Ba)<|dP [45] O (oA O)<|dN<|dE [0,1,5,6,8,9] O (by kernel_rfl)<|cD ?_
   obtain⟨oN,CP,Ax,IM,vH,Fh,xd,Gu,q⟩:=b4 q;refine rS<|cQ<|cM<|cM<|cP (bR (aT O) (aT O) CP)<|cM<|cP (mQ (aT O) aI IM)<|cP (dK eT O O (aT O) Fh)<|cS (o8 (f:=TiZ) (fun _=>O) O O (bF Gu) (aT O) C)<|ak 867 O ?_
   obtain⟨sK,Gt,q⟩:=ab q;refine rK<|cM<|cP (rq (aT O) aI Gt)<|cA<|ak 483 O (aw ?_)
   obtain⟨xc,JV,q⟩:=ab q;exact rK<|cM<|cH O JV<|cO (oA O)<|ak 483 O (cm q O)
  ·refine aN (aw ?_);obtain⟨sf,Gs,AF,Li,AE,Pr,PG,ZQ,Lk,Sy,KH,h50,q⟩:=b6 q;obtain⟨J7,Ul,q⟩:=ab q;refine rK<|cQ<|cM<|cM<|cJ dF O<|cP (bR (aT O) (aT O) Gs)<|cQ<|cM<|cM<|cJ dF O<|cP (bR (aT O) (aT O) Li)<|cP (dK eT O O (aT O) Pr)<|cP (og (f:=TiZ) (fun _=>O) O O (bF ZQ) C)<|cM<|cP (bR (aT O) (aT O) Sy)<|cP (dK eT O O (aT O) h50)<|cS (o8 (f:=TiZ) (fun _=>O) O O (bF Ul) (aT O) C)<|ak 99 O (aw ?_)
   obtain⟨FX,Uk,q⟩:=ab q;exact rK<|cM<|cH O Uk<|cO (oA O)<|ak 99 O (cm q O)
 ·refine aN (aw ?_);obtain⟨Ms,h56,q⟩:=ab q;refine rS<|cQ<|cG (ij (t:=5) O)<|cG (jL (s:=70) O O)<|cC (ny h56) O<|cA<|cF [4] O ?_
  cases q;exact an (r1 O)
def OY{a0 a1 a2 r}(q:qV a0 a1 a2=some r):al prog 319 [(TL TiZ) a0,(TL TiZ) a1,TiZ a2] (.vs [TiZ r]):=by
 refine c7 func319 O ntmps319 (by kernel_rfl) fun w0 H0=>rS<|cI<|ak 7 O<|rS<|cM<|cJ dF O<|cA<|ak 135 O ?_
 obtain⟨x1,h2,x3,h4,x5,h6,x7,h8,x9,kG,iM,qC,q⟩:=b6 q;obtain⟨iW,nJ,q⟩:=ab q;refine gE 16 mixed<|dP [0] O (oM O)<|dP [2] O (oM O)<|dP [7] O (oM O)<|dP [14,15] O (bR (aT O) (aT O) h2)<|dP [13,16] O (oX eT (dI O) O O h4)<|dP [17] O (aU (aT O) C)<|dP [18] O (oz (aT O) aI h6)<|dP [0] O (oM O)<|dP [2] O (oM O)<|dP [7] O (oM O)<|dP [21,22] O (bR (aT O) (aT O) h8)<|dP [23] O (bn (aT O) aI kG)<|dP [20,24] O (oX eT (dI O) O O qC)<|dP [25] O (aU (aT O) C)<|dP [19,26] O (bR (aT O) (aT O) nJ)<|dP [27] O (oA O)<|dN<|dE [0,1,2,7,8] O (by kernel_rfl)<|cD ?_
 obtain⟨kd,S,iP,T,ju,Z,kQ,wb,kP,wP,nZ,Ba,q⟩:=b6 q;refine gE 16 mixed<|dP [8] O (oM O)<|dP [1] O (oM O)<|dP [7] O (oM O)<|dP [30] O (bn (aT O) aI S)<|dP [29,31] O (oX eT (dI O) O O T)<|dP [32] O (aU (aT O) C)<|dP [28,33] O (rq (aT O) (aT O) Z)<|dP [8] O (oM O)<|dP [1] O (oM O)<|dP [7] O (oM O)<|dP [37] O (bn (aT O) aI wb)<|dP [36,38] O (oX eT (dI O) O O wP)<|dP [39] O (aU (aT O) C)<|dP [35,40] O (mQ (aT O) (aT O) Ba)<|dP [34] O (oA O)<|dP [41] O (oA O)<|dN<|dE [0,1,2,7,9,10] O (by kernel_rfl)<|cD ?_
 refine ah<|ai<|jj [0,1,2,7] O (σ:=Int×Int) (fun Dq=>[(9,.val (TiZ Dq.1)),(10,.val (TiZ Dq.2))]) q O (fun XD Dq q=>?_)
 refine ah ?_;obtain⟨Ax,IM,q⟩:=aH q;obtain⟨vH,Fh,q⟩:=aH q;obtain⟨xd,Gu,q⟩:=aH q;obtain⟨sK,Gt,q⟩:=aH q;obtain⟨xc,JV,q⟩:=aH q;obtain⟨sf,Gs,q⟩:=aH q;obtain⟨AF,Li,q⟩:=aH q;obtain⟨AE,Pr,q⟩:=aH q;refine gE 22 mixed<|dP [9] O (oM O)<|dP [42] O (jG (aT O) aI)<|dP [43] O (oM O)<|dV [9,44] O O O (ov 9 O on) (fun rW=>oM O)<|dV [1,44] O O O (ov 1 O on) (fun hg2=>oM O)<|dV [7,44] O O O (ov 7 O on) (fun P=>oM O)<|dV [44,47] O O O (oo 47 O id on) (fun wk=>bn (aT O) aI (IM wk))<|dV [44,46,48] O O O (oo 46 O id (oo 48 O id on)) (fun Az=>kS eT (dI O) (aT O) (aT O) (Fh Az))<|dV [44,49] O O O (oo 49 O id on) (fun CL=>aU (aT O) C)<|dV [44,45,50] O O O (oo 45 O id (oo 50 O id on)) (fun JQ=>oz (aT O) (aT O) (Gu JQ))<|dV [10,44] O O O (ov 10 O on) (fun OQ=>oM O)<|dV [44,52] O O O (oo 52 O id on) (fun Pn=>oz (aT O) aI (Gt Pn))<|dV [0,44] O O O (ov 0 O on) (fun Ff=>oM O)<|dV [2,44] O O O (ov 2 O on) (fun Le=>oM O)<|dV [7,44] O O O (ov 7 O on) (fun Fe=>oM O)<|dV [44,55,56] O O O (oo 55 O id (oo 56 O id on)) (fun Ld=>bR (aT O) (aT O) (JV Ld))<|dV [44,57] O O O (oo 57 O id on) (fun NZ=>bn (aT O) aI (Gs NZ))<|dV [44,54,58] O O O (oo 54 O id (oo 58 O id on)) (fun Po=>kS eT (dI O) (aT O) (aT O) (Li Po))<|dV [44,59] O O O (oo 59 O id on) (fun RZ=>aU (aT O) C)<|dV [44,53,60] O O O (oo 53 O id (oo 60 O id on)) (fun V9=>bR (aT O) (aT O) (Pr V9))<|dV [44,51,61] O O O (oo 51 O id (oo 61 O id on)) (fun ZL=>cq (aT O) (aT O))<|dP [44,62] O (fO (aT O) O jY)<|dN<|dE [0,1,2,7,9,10,63] O (by kernel_rfl)<|cD ?_
 refine gc O q (fun acs q=>?_) fun acs q=>?_
 ·refine aj<|aw<|ai ?_
  obtain⟨PF,XV,q⟩:=ab q;refine rS<|cM<|cP (bn (aT O) aI XV)<|cO (oA O)<|ak 1671 O ?_
  obtain⟨Eh,h49,SD,h51,OJ,h53,q⟩:=b3 q;refine rS<|cM<|cM<|cM<|cP (bn (aT O) aI h49)<|cP (oX eT (dI O) O O h51)<|cR O C<|cP (bR (aT O) (aT O) h53)<|cO (oA O)<|ak 1671 O<|rS<|cM<|cP (jG (aT O) aI)<|cF [0,1,2,7,9,10,74] O<|gc O q (fun aoN q=>?_) fun aoN q=>?_
  ·refine rS<|cM<|cA<|cF [6] O ?_
   cases q;exact an (r1 O)
  ·exact aj (cm q O)
 ·refine aN<|aw<|rS<|cM<|cA<|cF [6] O ?_
  cases q;exact an (r1 O)
end
end Trn
