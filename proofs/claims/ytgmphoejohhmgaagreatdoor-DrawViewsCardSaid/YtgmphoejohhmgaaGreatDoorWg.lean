/-
  Part of the proof of DrawViews.
-/
import Derived.Test.YtgmphoejohhmgaaGreatDoorWf
set_option maxRecDepth 100000
set_option maxHeartbeats 20000000
set_option linter.all false
open Go Go.RowKit Go.Proofs Go.Proofs.Tryz
namespace Trn
section
variable[D:DR]
def uf{a0 r}(q:oi a0=some r):al prog 62 [(TP dH) a0] (.vs [(TL bT) r]):=by
 refine c7 func62 O ntmps62 (by kernel_rfl) fun w0 H0=>rS<|cX<|cP (ba bT 128 24)<|ak 2 O<|rS<|cP (Gd (K:=222) (E:=218) (Eb:=0) (sz:=0) (α:=ate×ate) (β:=V3×V3) ia (fun v=> .val (mx v)))<|cS (bt O O (bU O) _ (Or.inl O))<|ak 10 O ?_
 refine ah<|DU O (ft.cons (Step.pure (Gd (K:=222) (E:=224) (Eb:=226) (sz:=8) (α:=ate×ate) (β:=ard (Rat×Rat)) ia (fun v=> .buf (lT aS v))) O O (bU O) O O) (ft.cons (Step.pure (Ep false aar HL (yQ.val yQ.nil)) O O (bU O) O O) (ft.cons (F8 (i:=0) (iV.box O) O O O (wS.nK O) O VN) (ft.ghost (wc (t:=4) (u:=25) (i:=0) O O O O) (ft.fin (sS [1,3,4] O)))))) (aw ?_)
 refine ah<|rS<|cU O Ca<|cP (sX (aT O))<|cP (eG (aT O) O (aP.agg (i:=0) O O) D1)<|cR O NM<|cJ RS O<|cN<|ak 3221225498 O<|ai<|jj [1,30] O (σ:=(ard ((ate×ate)×(V3×V3)))×(ard ((ate×ate)×(ard (Rat×Rat))))×Int) (fun s1=>[(3,.nK 222 218 0 0 (mM ia (fun v=> .val (mx v)) s1.1)),(4,.qH 215 false [.map 222 224 226 8 (mM ia (fun v=> .buf (lT aS v)) s1.2.1)]),(31,.val (TiZ s1.2.2))]) q O (fun k2 s1 q=>?_)
 refine rS<|cL O O<|ak 7516192794 O<|ah<|gc O q (fun hb3 q=>?_) fun hb3 q=>?_
 ·refine aj<|aw<|ah<|ai<|rS<|cM<|cA<|ak 3221225530 O ?_
  obtain⟨x4,h5,q⟩:=ab q;refine rS<|cU O Ca<|cM<|cC (F5 h5) O<|cJ IG O<|cN<|ak 484257562650 O<|ai<|jj [1,30,31,36,37] O (σ:=(ard ((ate×ate)×(V3×V3)))×(ard ((ate×ate)×(ard (Rat×Rat))))×Int) (fun s6=>[(3,.nK 222 218 0 0 (mM ia (fun v=> .val (mx v)) s6.1)),(4,.qH 215 false [.map 222 224 226 8 (mM ia (fun v=> .buf (lT aS v)) s6.2.1)]),(38,.val (TiZ s6.2.2))]) q O (fun k7 s6 q=>?_)
  refine rS<|cL O O<|ak 1034013376538 O<|ah<|gc O q (fun Y q=>?_) fun Y q=>?_
  ·refine aj<|aw<|ah<|ai ?_
   obtain⟨x9,kG,q⟩:=ab q;refine rS<|cP (oX Vm (dI O) O O kG)<|cR O tL<|cT AD<|cs O O O tL<|ak 484257562778 O ?_
   obtain⟨iM,qC,q⟩:=ab q;refine rS<|jg 1 O tQ O g<|jg 0 O mv O g<|cC (iB qC) O<|cT bY<|cs O O O g<|ak 484257563034 O<|rS<|cP (ba aX 87 4)<|ak 484257563546 O<|ah<|rS<|cU O Ca<|cP (sX (aT O))<|cP (eG (aT O) O (aP.agg (i:=2) O O) D0)<|cR O Gj<|cJ mq O<|cN<|ak 7881783605461914 O<|ai<|jj [1,3,4,7,8,30,31,36,37,38,50,51] O (σ:=ard Rat×Int) (fun s13=>[(9,.buf 87 4 (lT aX s13.1)),(52,.val (TiZ s13.2))]) q O (fun k14 s13 q=>?_)
   refine rS<|cL O O<|ak 16888982860202906 O<|ah<|gc O q (fun ait q=>?_) fun ait q=>?_
   ·refine aj<|aw<|ah<|uU [1,3,4,7,8,30,31,36,37,38,50,51,52] O (α:=(ard Rat)) (fun s16=>[(9,.buf 87 4 (lT aX s16))]) q (fun k17 q=>?_) (fun s16 q=>?_)
    ·refine ai ?_;obtain⟨iZ,qi,q⟩:=ab q;refine rS<|cP (oX uv (dI O) O O qi)<|cR O fI<|cT iA<|cs O O O fI<|ak 7881783605463962 O ?_
     obtain⟨kR,h21,q⟩:=ab q;refine rS<|jg 0 O jP O g<|cU O g<|cC (fg h21) O<|cT V<|cs O O O d<|ak 7881783605468058 O ?_
     obtain⟨my,Cf,q⟩:=ab q;refine rS<|cU O d<|cC (ja Cf) O<|cP (da (aT O) aI)<|ak 4619567802032855962 O<|gc O q (fun N1 q=>?_) fun N1 q=>?_
     ·obtain⟨nZ,Ba,oN,CP,Ax,IM,vH,Fh,q⟩:=b4 q;exact gD 11 mixed<|dP [9] O (eI)<|dP [11] O (ae O fI)<|dQ 0 O mv O g<|dP [64,66] O (oC (gF Ba) O)<|dP [67] O (oC (FC CP) O)<|dP [12] O (ae O d)<|dP [68,69] O (oC (Di IM) O)<|dP [70] O (bS V Av O O)<|dG [63] [63,71,9] O (pB mr Aw (dI O) O O (aT O) Fh (bU O))<|dG [] [72] O (tO O O (bU O) _ (Or.inl O))<|dN<|dE [1,3,4,7,8,9,30,31,36,37,38,50,51,52] O (by kernel_rfl)<|cD (cm q O)
     ·exact aj (cm q O)
    ·refine aw ?_;obtain⟨xd,Gu,q⟩:=ab q;exact rK<|cH O Gu<|cO (oM O)<|ak 7881783605461914 O (cm q O)
   ·refine aN (aw ?_);obtain⟨sK,Gt,q⟩:=ab q;refine rS<|cU O tL<|cC (Fy Gt) O<|cT Eg<|cs O O O JJ<|ak 484257571738 O ?_
    obtain⟨xc,JV,sf,Gs,q⟩:=b2 q;refine gE 9 mixed<|dQ 0 O tP O g<|dP [77] O (oC (Bl JV) O)<|dQ 1 O DZ O g<|dP [80] O (oC (Bl Gs) O)<|dP [78,81] O (bB Qz aem O)<|dP [] O (gW Qz)<|dS [14,82] O (ds O O O NL)<|dN<|dE [1,3,4,7,8,9,13,14,30,31,36,37,38] O (by kernel_rfl)<|cD<|rS<|cQ<|cU O NL<|cU O JJ<|cS (aaO (F:=mx) (x:=(xc,sf)) (y:=sK) Xr abQ (jD.same O) O (aT O) (aT O))<|ak 484257588122 O ?_
    obtain⟨AF,Li,AE,Pr,PG,ZQ,q⟩:=b3 q;refine rS<|cC (Lq Li) O<|cC (Lq Pr) O<|cQ<|cG (ij (t:=9) O)<|cG (jL (s:=88) O O)<|cC (zZ ZQ) O<|ak 618970019642690621707149722 O<|ai ?_
    obtain⟨J7,Ul,q⟩:=ab q;refine Ch (σ:=(ard ((ate×ate)×(ard (Rat×Rat))))) [1,3,4,7,8,13,14,30,31,36,37,38] (fun s47=>[(1,.own 124 ((TP dH) a0)),(3,.nK 222 218 0 0 (mM ia (fun v=> .val (mx v)) (qp s6.1 (xc,sf) sK))),(4,.qH 215 false [.map 222 224 226 8 (mM ia (fun v=> .buf (lT aS v)) s47)]),(7,.own 128 (bT x9)),(8,.own 91 (ar iM)),(13,.own 218 (mx sK)),(14,.own 222 (ia (xc,sf))),(30,.val (TiZ (a0.1.length:Int))),(31,.val (TiZ s1.2.2)),(36,.val (TL bT x4)),(37,.val (TiZ (x4.length:Int))),(38,.val (TiZ s6.2.2))]) none q Ul O O O (sS [1,3,4,7,8,13,14,30,31,36,37,38] O) (fun _=>O) (fun G h=>by cases h) (fun _=>O) O (by decide) (fun wr Hr l rc pv k50 Eh s47 UW q=>?_) (fun s47 q=>aw ?_) (fun G h=>by cases h)
    ·
     refine rS<|cT V<|cs O O O d<|ak 2898916381420170925224308830875793251063435906267517263785550234 O<|rK<|cT V<|cs O O O d<|ak 2898916381420170925224308830875793248587555827696756713987367322 O (Ow (sS [171,1,3,4,7,8,13,14,15,16,30,31,36,37,38,173,175,176,179,180,185,186,202,203,208,209,210] O) O ?_)
     refine ai<|ah ?_
     obtain⟨FX,Uk,Ms,h56,x57,h58,q⟩:=b3 q;refine gE 9 mixed<|dP [1] O (ae O Ca)<|dP [7] O (ae O tL)<|dP [15] O (ae O d)<|dP [16] O (ae O d)<|dP [94,95] O (oC (z6 Uk) O)<|dP [93,96] O (oC (ke h56) O)<|dP [8] O (ae O g)<|dP [92,97,98] O (oC (wW h58) O)<|dP [99] O (da (aT O) aI)<|dN<|dE [1,3,4,7,8,13,14,15,16,30,31,36,37,38,100,171,173,175,176,179,180,185,186,202,203,208,209,210] O (by kernel_rfl)<|cD<|gc O q (fun aoJ q=>?_) fun aoJ q=>?_
     ·exact aN (xE (J6:=none) q (sS [171,173,175,176,179,180,185,186,202,203,208,209,210,1,3,4,7,8,13,14,30,31,36,37,38] O))
     ·refine aj (aw ?_);obtain⟨Sz,h61,CX,Lh,QC,h65,x66,h67,q⟩:=b4 q;refine gE 16 mixed<|dP [7] O (ae O tL)<|dP [15] O (ae O d)<|dP [101,102] O (oC (ke h61) O)<|dQ 0 O tP O g<|dP [103,105] O (oC (l9 Lh) O)<|dP [7] O (ae O tL)<|dP [16] O (ae O d)<|dP [107,108] O (oC (ke h65) O)<|dQ 0 O tP O g<|dP [109,111] O (oC (l9 h67) O)<|dP [] O (gW V)<|dP [] O (gW V)<|dS [17,106] O (ds O O O d)<|dS [18,112] O (ds O O O d)<|dN<|dE [1,3,4,7,8,13,14,17,18,30,31,36,37,38,171,173,175,176,179,180,185,186,202,203,208,209,210] O (by kernel_rfl)<|cD ?_
      refine ah ?_;obtain⟨WM,h69,q⟩:=ab q;refine rS<|cU O d<|cU O d<|cC (qN h69) O<|cP (cq (aT O) aI)<|ak 2898916381420170925224308830958869998324113069753244655255183770 O<|uU [1,3,4,7,8,13,14,30,31,36,37,38,171,173,175,176,179,180,185,186,202,203,208,209,210] O (α:=Rat×Rat) (fun s70=>[(17,.own 87 (aX s70.1)),(18,.own 87 (aX s70.2))]) q (fun k71 q=>?_) (fun s70 q=>?_)
      ·refine gc O q (fun aoE q=>?_) fun aoE q=>?_
       ·exact rK<|cU O d<|cU O d<|cs O O O d<|cs O O O d<|ak 2898916381420170925224308830875793248587555827696756713987662234 O (cm q O)
       ·exact aj (cm q O)
      ·refine aw ?_;obtain⟨KG,h74,q⟩:=ab q;exact DU O (ft.cons (Bp (i:=0) true (iV.box O) O O O O VN (bU O) O) (ft.cons (Step.pure (ae O NL) O O (bU O) O O) (ft.cons (Step.pure (ae O d) O O (bU O) O O) (ft.cons (Step.pure (ae O d) O O (bU O) O O) (ft.cons (Step.pure (bB CV Hn O) O O (bU O) O O) (ft.cons (Step.pure (bS lZ GD O O) O O (bU O) O O) (ft.cons (aaP (x:=(xc,sf)) (z:=([]:ard (Rat×Rat))) Xq abQ UZ O jD.own O (aT O) (bU O) O) (ft.ghost (acI (sS [1,3,4,7,8,13,14,17,18,30,31,36,37,38,119,120,122,123,124,125,126,171,173,175,176,179,180,185,186,202,203,208,209,210] O)) (ft.cons (aeu O (bU O) O) (ft.cons (xk nG GG (dI O) O (aT O) h74 (bU O)) (ft.ghost (acI (sS [1,3,4,7,8,13,14,17,18,30,31,36,37,38,119,120,122,123,124,125,126,127,171,173,175,176,179,180,185,186,202,203,208,209,210] O)) (ft.cons (Step.pure (dW O O) O O (bU O) O O) (ft.cons (aev (x:=(xc,sf)) (z:=[]) (y:=KG) jD.own O (aT O) O O) (ft.ghost (wc (t:=4) (u:=119) (i:=0) O O O O) (ft.fin (sS [1,3,4,7,8,13,14,30,31,36,37,38,171,173,175,176,179,180,185,186,202,203,208,209,210] O)))))))))))))))) (xE (J6:=none) q (sS [171,173,175,176,179,180,185,186,202,203,208,209,210,1,3,4,7,8,13,14,30,31,36,37,38] O))
    ·
     obtain⟨PE,h77,q⟩:=ab q;exact rK<|cH O h77<|cO (oM O)<|ak 484257562650 O (cm q O)
  ·refine aN (aw ?_);obtain⟨x78,h79,q⟩:=ab q;exact rK<|cH O h79<|cO (oM O)<|ak 3221225498 O (cm q O)
 ·refine aN<|aw<|ah<|Ci (aa9 (t:=4) O (ua.xq ua.nil) O)<|rK<|cP (ba bT 128 24)<|ak 524312 O<|aw<|ah<|rS<|cQ<|cG (Ts (t:=3) O)<|cG (agi (u:=131) O O)<|cP (Nv Xr (aT O))<|cF [4,19,132] O<|ai<|R6 (it:=132) (fun(p:(ate×ate)×(V3×V3))=>(ia p.1,mx p.2)) (σ:=(ard (V3×V3))) (fun Xa=>[(4,.val (nm ((TMp ia (TL aS)) s1.2.1))),(19,.buf 128 24 (lT bT Xa))]) (yV q) (sS [132,4,19] O) (fun seen Xa hT hE=>?_)
  refine ah<|Wg O (sS [4,19] O) O O (fun j hj hn=>aw ?_) (fun hE2=>aw ?_)
  ·obtain⟨yS,hx⟩:=aiU hj;obtain⟨z82,q⟩:=hT j yS hx hn;have hf:=q;refine ah (rY O (fun _=>aj (aw ?_)) (fun h=>by cases h));refine ai<|rS<|cP (Ny (k:=ia yS.1) (e:=mx yS.2) O (by simp[hx]))<|cE<|cE<|cT Qz<|cT Eg<|cs O O O NL<|cs O O O JJ<|cF [4,19,20,21,132] O ?_
   obtain⟨h83,q⟩:=rE q;obtain⟨PC,h85,q⟩:=ab q;refine rS<|cR O VN<|cU O NL<|cP (Rh (x:=yS.1) (f:=aS) Xq abQ GP (aT O) (aT O) h83)<|cC (Bk h85) O<|cJ nG O<|cN<|cF [4,19,21,132,141,142,143] O<|ai<|jj [4,21,132,141,142] O (σ:=(ard (V3×V3))×Int) (fun Pg=>[(19,.buf 128 24 (lT bT Pg.1)),(143,.val (TiZ Pg.2))]) q O (fun k87 Pg q=>?_)
   refine rS<|cL O O<|cF [4,19,21,132,141,142,143,144] O<|ah<|gc O q (fun aoA q=>?_) fun aoA q=>?_
   ·refine aj<|aw<|ah<|ai ?_
    obtain⟨Ja,h90,q⟩:=ab q;refine rS<|cP (oX Br (dI O) O O h90)<|cR O tK<|cT lZ<|cs O O O tK<|cF [4,19,21,23,132,141,142,143] O ?_
    obtain⟨WL,h92,WK,h94,UO,h96,x97,h98,U6,We,q⟩:=b5 q;refine gD 21 mixed<|dP [19] O (eI)<|dQ 1 O DZ O g<|dQ 0 O tP O g<|dQ 0 O rh O d<|dP [151,153] O (oC (gw h92) O)<|dP [149,154] O (oC (jk h94) O)<|dQ 1 O DZ O g<|dQ 0 O tP O g<|dQ 1 O nb O d<|dP [159,161] O (oC (gw h96) O)<|dP [157,162] O (oC (jk h98) O)<|dP [155,163] O (bB Mq Q0 O)<|dP [164] O (bS AD adl O O)<|dG [147] [147,165,19] O (pB IG adr (dI O) O O (aT O) We (bU O))<|dG [] [166] O (tO O O (bU O) _ (Or.inl O))<|dN<|dE [4,19,21,132,141,142,143] O (by kernel_rfl)<|cD (aw ?_)
    obtain⟨KK,acG,q⟩:=ab q;exact rK<|cH O acG<|cO (oM O)<|cF [4,19,21,132,141,142,143] O (cm q O)
   ·cases q;refine aN (fun a w H hs=>?_)
    try unfold Exit.then
    try unfold Exit.inBlock
    try simp only[if_true]
    exact⟨_,_,_,hx,hn,hf,H,hs.weaken (uX.sub (sS [132,4,19] O))⟩
  ·have q:=hE hE2;refine ah (rY O (fun h=>by cases h) (fun _=>?_));refine aN (aw ?_);obtain⟨KJ,acF,q⟩:=ab q;refine rS<|cQ<|cS (jK (xs:=[]) (ys:=[.func 130]) (Y1 acF) (dZ.same O) O O O aJ.nil (aJ.cons (Arg.fn fun _ _ h=>AM (D:=DR.strict) h) aJ.nil) (bU O) O)<|cF [19] O<|rS<|cQ<|cG (ij (t:=19) O)<|cG (jL (s:=170) O O)<|cA<|ak 4 O ?_
   cases q;exact an (r1 O)
def E5{a0 a1 a2 r}(q:w5 a0 a1 a2=some r):al prog 112 [(TP dH) a0,bT a1,ar a2] (.vs [(TL aX) r]):=by
 refine c7 func112 O ntmps112 (by kernel_rfl) fun w0 H0=>rS<|cX<|cX<|cP (ba aX 87 4)<|ak 49 O ?_
 obtain⟨x1,h2,q⟩:=ab q;refine rS<|jg 1 O tQ O g<|jg 0 O mv O g<|cC (iB h2) O<|cT bY<|cs O O O g<|ak 177 O<|rS<|cP (ba Cr 296 12)<|ak 433 O<|ah<|rS<|cM<|cP (sX (aT O))<|cP (eG (aT O) O (aP.agg (i:=2) O O) D0)<|cR O Gj<|cJ mq O<|cN<|ak 469762480 O<|ai<|jj [4,5,7,26,27] O (σ:=(ard V3)×Int) (fun s3=>[(8,.buf 296 12 (lT Cr s3.1)),(28,.val (TiZ s3.2))]) q O (fun k4 s3 q=>?_)
 refine rS<|cL O O<|ak 1006633392 O<|ah<|gc O q (fun CN q=>?_) fun CN q=>?_
 ·refine aj<|aw<|ah<|uU [4,5,7,26,27,28] O (α:=(ard V3)) (fun s6=>[(8,.buf 296 12 (lT Cr s6))]) q (fun k7 q=>?_) (fun s6 q=>?_)
  ·refine ai ?_;obtain⟨x8,h9,q⟩:=ab q;refine rS<|cP (oX uv (dI O) O O h9)<|cR O fI<|cT iA<|cs O O O fI<|ak 469763504 O ?_
   obtain⟨dz,jv,fp,kU,gp,mu,q⟩:=b3 q;refine gE 15 mixed<|dP [10] O (ae O fI)<|dQ 0 O mv O g<|dP [32,34] O (oC (gF jv) O)<|dQ 0 O jP O g<|dP [7] O (ae O g)<|dP [37,38] O (oC (fg kU) O)<|dQ 0 O jP O g<|dP [5] O (ae O g)<|dP [41,42] O (oC (fg mu) O)<|dP [35,39,43] O (bB aay ael O)<|dP [] O (gW Ef)<|dS [11,44] O (ds O O O JI)<|dN<|dE [4,5,7,8,11,26,27,28] O (by kernel_rfl)<|cD ?_
   obtain⟨gS,Q,q⟩:=ab q;obtain⟨iZ,qi,q⟩:=aH q;refine rS<|jg 1 O yL O d<|cC (ja Q) O<|cP (da (aT O) aI)<|cM<|gV O O (ov 11 O on) (fun rW=>a8 O DW)<|gV O O (oo 50 O id (ov 11 O on)) (fun hg2=>oP 2 O O d)<|gV O O (oo 51 O id on) (fun P=>oC (ja (qi P)) O)<|gV O O (oo 52 O id on) (fun wk=>da (aT O) aI)<|cP (fO (aT O) O jY)<|ak 18014398979246512 O<|gc O q (fun Gq q=>?_) fun Gq q=>?_
   ·obtain⟨kQ,wb,q⟩:=ab q;exact rK<|cQ<|cU O JI<|cP (bS Ef aje O O)<|cS (dp RQ aju (dI O) O O (aT O) wb (bU O))<|cS (bt O O (bU O) _ (Or.inl O))<|ak 469762480 O (cm q O)
   ·exact aj (cm q O)
  ·refine aw ?_;obtain⟨kP,wP,q⟩:=ab q;exact rK<|cH O wP<|cO (oM O)<|ak 469762480 O (cm q O)
 ·refine aN<|aw<|rS<|cP (ba aX 87 4)<|ak 4352 O<|ah<|rS<|cG (ij (t:=8) O)<|cM<|cJ RQ O<|cN<|cF [8,12,60,61,62] O<|ai<|jj [8,60,61] O (σ:=ard Rat×Int) (fun qn=>[(12,.buf 87 4 (lT aX qn.1)),(62,.val (TiZ qn.2))]) q O (fun NO qn q=>?_)
  refine rS<|cL O O<|cF [8,12,60,61,62,63] O<|ah<|gc O q (fun Wc q=>?_) fun Wc q=>?_
  ·refine aj<|aw<|ah<|ai ?_
   obtain⟨oY,Fi,q⟩:=ab q;refine rS<|cM<|cP (oX Vj (dI O) O O Fi)<|cR O JI<|cT Ef<|cA<|cs O O O JI<|ak 8070450532247957760 O<|ah ?_
   obtain⟨qE,CO,q⟩:=ab q;refine rS<|jg 1 O yL O d<|cC (ja CO) O<|cP (da (aT O) aI)<|ak 1188662071249659261184 O<|uU [8,13,14,60,61,62] O (α:=(ard Rat)) (fun Vq=>[(12,.buf 87 4 (lT aX Vq))]) q (fun k33 q=>?_) (fun Vq q=>?_)
   ·refine gc O q (fun acv q=>?_) fun acv q=>?_
    ·obtain⟨sK,Gt,xc,JV,sf,Gs,q⟩:=b3 q;exact gD 10 mixed<|dP [12] O (eI)<|dQ 0 O DX O d<|dP [73] O (oC (FC Gt) O)<|dQ 1 O yL O d<|dP [74,76] O (oC (Di JV) O)<|dP [77] O (bS V Av O O)<|dG [71] [71,78,12] O (pB mr Aw (dI O) O O (aT O) Gs (bU O))<|dG [] [79] O (tO O O (bU O) _ (Or.inl O))<|dN<|dE [8,12,13,14,60,61,62] O (by kernel_rfl)<|cD (cm q O)
    ·exact aj (cm q O)
   ·refine aw ?_;obtain⟨AF,Li,q⟩:=ab q;refine rS<|cM<|cM<|cP (sv Vj (dI O) (aT O) Lo.none (Lo.some (aT O)) Li)<|cJ RQ O<|cN<|cF [8,12,14,60,61,62,82,83,84] O<|ai<|jj [8,14,60,61,62,82,83] O (σ:=ard Rat×Int) (fun K4=>[(12,.buf 87 4 (lT aX K4.1)),(84,.val (TiZ K4.2))]) q O (fun k44 K4 q=>?_)
    refine rS<|cL O O<|ak 72535557247328282730320128 O<|ah<|gc O q (fun acs q=>?_) fun acs q=>?_
    ·refine aj<|aw<|ah<|uU [8,14,60,61,62,82,83,84] O (α:=(ard Rat)) (fun s46=>[(12,.buf 87 4 (lT aX s46))]) q (fun k47 q=>?_) (fun s46 q=>?_)
     ·refine ai ?_;obtain⟨Eh,h49,q⟩:=ab q;refine rS<|cP (oX Vj (dI O) O O h49)<|cR O JI<|cT Ef<|cs O O O JI<|ak 33849931019660149139788032 O ?_
      obtain⟨SD,h51,OJ,h53,SC,h55,q⟩:=b3 q;refine gE 13 mixed<|dQ 1 O yL O d<|dQ 2 O DW O d<|dP [89,91] O (oC (kh h51) O)<|dQ 2 O DW O d<|dQ 1 O yL O d<|dP [94,96] O (oC (kh h53) O)<|dP [92,97] O (oC (vL h55) O)<|dP [] O (gW V)<|dS [17,98] O (ds O O O d)<|dN<|dE [8,12,14,16,17,60,61,62,82,83,84] O (by kernel_rfl)<|cD<|ah ?_
      obtain⟨SB,h57,q⟩:=ab q;refine rS<|cU O d<|cC (ja h57) O<|cP (df (aT O) aI)<|ak 2535335050387478463142546329856 O<|gc O q (fun aoK q=>?_) fun aoK q=>?_
      ·exact aN (cm q O)
      ·refine aj (aw ?_);obtain⟨x59,h60,x61,h62,Yx,h64,x65,h66,x67,h68,q⟩:=b5 q;refine gE 15 mixed<|dQ 0 O DX O d<|dQ 1 O yL O d<|dP [103,105] O (oC (kh h60) O)<|dQ 1 O yL O d<|dQ 0 O DX O d<|dP [108,110] O (oC (kh h62) O)<|dP [106,111] O (oC (vL h64) O)<|dP [17] O (ae O d)<|dP [112,113] O (oC (Di h66) O)<|dP [114] O (oC (ja h68) O)<|dP [115] O (jG (aT O) aI)<|dN<|dE [8,12,14,16,17,60,61,62,82,83,84,116] O (by kernel_rfl)<|cD<|gc O q (fun aoF q=>?_) fun aoF q=>?_
       ·obtain⟨x70,h71,x72,h73,Yu,h75,PE,h77,x78,h79,q⟩:=b5 q;exact gD 17 mixed<|dP [12] O (eI)<|dQ 2 O DW O d<|dQ 0 O DX O d<|dP [119,121] O (oC (kh h71) O)<|dQ 0 O DX O d<|dQ 2 O DW O d<|dP [124,126] O (oC (kh h73) O)<|dP [122,127] O (oC (vL h75) O)<|dP [17] O (ae O d)<|dP [128,129] O (oC (Di h77) O)<|dP [130] O (bS V Av O O)<|dG [117] [117,131,12] O (pB mr Aw (dI O) O O (aT O) h79 (bU O))<|dG [] [132] O (tO O O (bU O) _ (Or.inl O))<|dN<|dE [8,12,14,60,61,62,82,83,84] O (by kernel_rfl)<|cD (cm q O)
       ·exact aj (cm q O)
     ·refine aw ?_;obtain⟨x80,h81,q⟩:=ab q;exact rK<|cH O h81<|cO (oM O)<|cF [8,12,14,60,61,62,82,83,84] O (cm q O)
    ·refine aN (aw ?_);obtain⟨x82,h83,q⟩:=ab q;exact rK<|cH O h83<|cO (oM O)<|cF [8,12,60,61,62] O (cm q O)
  ·refine aN<|aw<|rS<|cQ<|cG (ij (t:=12) O)<|cG (jL (s:=135) O O)<|cA<|cF [6] O ?_
   cases q;exact an (r1 O)
def F4{a0 a1 a2 r}(q:yw a0 a1 a2=some r):al prog 171 [(TP dH) a0,ar a1,ar a2] (.vs [aY r]):=by
 refine c7 func171 O ntmps171 (by kernel_rfl) fun w0 H0=>rS<|cX<|cX<|cX<|cT aaD<|ak 120 O<|rS<|cP (ba aX 87 4)<|ak 248 O ?_
 obtain⟨x1,h2,q⟩:=ab q;refine rS<|cC (Lq h2) O<|cT V<|cs O O O d<|ak 504 O<|ah<|rS<|cU O Ca<|cP (sX (aT O))<|cP (eG (aT O) O (aP.agg (i:=2) O O) D0)<|cR O Gj<|cJ mq O<|cN<|ak 3670520 O<|ai<|jj [3,4,5,6,19,20] O (σ:=ard Rat×Rat×Int) (fun s3=>[(7,.buf 87 4 (lT aX s3.1)),(8,.own 87 (aX s3.2.1)),(21,.val (TiZ s3.2.2))]) q O (fun k4 s3 q=>?_)
 refine rS<|cL O O<|ak 7864824 O<|ah<|gc O q (fun CN q=>?_) fun CN q=>?_
 ·refine aj<|aw<|ah<|uU [3,4,5,6,19,20,21] O (α:=ard Rat×Rat) (fun s6=>[(7,.buf 87 4 (lT aX s6.1)),(8,.own 87 (aX s6.2))]) q (fun k7 q=>?_) (fun s6 q=>?_)
  ·refine ai ?_;obtain⟨x8,h9,q⟩:=ab q;refine rS<|cP (oX uv (dI O) O O h9)<|cR O fI<|cT iA<|cs O O O fI<|ak 3671544 O ?_
   obtain⟨dz,jv,q⟩:=ab q;refine rS<|jg 0 O jP O g<|cU O g<|cC (fg jv) O<|cT V<|cs O O O d<|ak 3673592 O<|ah ?_
   obtain⟨fp,kU,q⟩:=ab q;refine rS<|cU O d<|cC (ja kU) O<|cP (df (aT O) aI)<|ak 2151157240 O<|gc O q (fun R4 q=>?_) fun R4 q=>?_
   ·exact aN (cm q O)
   ·refine aj (aw ?_);obtain⟨kd,S,iP,T,ju,Z,q⟩:=b3 q;refine gE 8 mixed<|dP [10] O (ae O fI)<|dP [4] O (ae O g)<|dP [32,33] O (oC (gF S) O)<|dP [34] O (oC (FC T) O)<|dP [11] O (ae O d)<|dP [35,36] O (oC (Di Z) O)<|dP [] O (gW V)<|dS [12,37] O (ds O O O d)<|dN<|dE [3,4,5,6,7,8,12,19,20,21] O (by kernel_rfl)<|cD ?_
    obtain⟨kQ,wb,q⟩:=ab q;refine rS<|cQ<|cU O d<|cP (bS V Av O O)<|cS (dp mr Aw (dI O) O O (aT O) wb (bU O))<|cS (bt O O (bU O) _ (Or.inl O))<|ak 3674616 O ?_
    obtain⟨kP,wP,q⟩:=ab q;refine rS<|cU O d<|cU O d<|cC (qN wP) O<|cP (cq (aT O) aI)<|ak 35184375763448 O<|gc O q (fun R2 q=>?_) fun R2 q=>?_
    ·exact rK<|cU O d<|cs O O O d<|ak 3670520 O (cm q O)
    ·exact aj (cm q O)
  ·refine aw ?_;obtain⟨yY,JX,q⟩:=ab q;exact rK<|cH O JX<|cO (oM O)<|ak 3670520 O (cm q O)
 ·refine aN<|aw<|ah ?_
  obtain⟨oY,Fi,q⟩:=ab q;refine rS<|cU O d<|cC (ja Fi) O<|cP (df (aT O) aI)<|cF [3,4,5,6,7,8,50] O<|gc O q (fun acw q=>?_) fun acw q=>?_
  ·refine rS<|cS (sU O aB O xD)<|cF [6] O ?_
   cases q;exact an (q1 O xD)
  ·refine aj<|aw<|ah<|ah<|Ci (ij (t:=7) O)<|lP (sS [3,4,5,6,7,8,50] O) ?_
   obtain⟨vH,Fh,xd,Gu,q⟩:=b2 q;refine gD 4 mixed<|dP [] O (oC (Lq Fh) O)<|dP [8] O (ae O d)<|dP [7] O (oM O)<|dP [51,52,53] O (oC (zZ Gu) O)<|dN<|dE [3,4,5,6,54] O (by kernel_rfl)<|cD<|aw<|ai ?_
   obtain⟨sf,Gs,q⟩:=ab q;refine Ch (σ:=Bool) [3,4,5,6] (fun s35=>[(3,.own 124 ((TP dH) a0)),(4,.own 91 (ar a1)),(5,.own 91 (ar a2)),(6,.own 4 (aY s35))]) (some [(6,.own 4 (aY r))]) q Gs O O O (sS [3,4,5,6] O) (fun _=>O) (fun G h=>by cases h;rfl) (fun _=>O) O (by decide) (fun wr Hr l rc pv k38 uj s35 UW q=>?_) (fun s35 q=>aw ?_) (fun G h=>by cases h;exact fX O O ((bu.cell O (sB xD) O bu.nil)))
   ·
    refine rS<|cT V<|cs O O O d<|ak 71130717205818068967544 O<|rK<|cT V<|cs O O O d<|ak 71130645148224031055992 O (Ow (sS [68,3,4,5,6,13,14,72,73,74,75] O) O ?_)
    refine ai ?_;obtain⟨AF,Li,AE,Pr,PG,ZQ,Lk,Sy,q⟩:=b4 q;refine gE 11 mixed<|dP [3] O (ae O Ca)<|dP [4] O (ae O g)<|dP [5] O (ae O g)<|dP [13] O (ae O d)<|dP [14] O (ae O d)<|dP [60,61] O (oC (z6 Li) O)<|dP [59,62] O (oC (gw Pr) O)<|dP [58,63] O (oC (jk ZQ) O)<|dP [5] O (ae O g)<|dP [57,64,65] O (oC (wW Sy) O)<|dP [66] O (df (aT O) aI)<|dN<|dE [3,4,5,6,67,68,72,73,74,75] O (by kernel_rfl)<|cD<|gc O q (fun aoO q=>?_) fun aoO q=>?_
    ·refine rS<|cS (sU O aB O xD)<|cF [3,4,5,6,68,72,73,74,75] O ?_
     cases q;exact an (ame (adg O (sS [68,72,73,74,75,6] O)))
    ·exact aj (xE (J6:=(some [(6,.own 4 (aY r))])) q (sS [68,72,73,74,75,3,4,5,6] O))
   ·
    refine rS<|cS (sU O aB O xD)<|cF [6] O ?_
    cases q;exact an (q1 O xD)
def KY{a0 c0 c1 r}(q:wF a0 c0 c1=some r):al prog 170 [(TP dH) a0,nm (ar c0),nm (ar c1)] (.vs [aY r]):=by
 refine c7 func170 O ntmps170 (by kernel_rfl) fun w0 H0=>rS<|cB<|ak 7 O ?_
 obtain⟨x1,h2,q⟩:=ab q;refine rS<|cM<|cR O g<|cR O g<|cC (F4 h2) O<|cA<|cF [4] O ?_
 cases q;exact an (r1 O)
def oe{a0 a1 r}(q:jN a0 a1=some r):al prog 250 [(TL (TP dH)) a0,(Fj prog (fun(x:((ard (ard (V3×Rat)))×(ard (ard V3))×(ard (V3×Rat))))=>[(TP dH) x]) (fun(x:Bool)=>[aY x])) a1] (.vs [TiZ r]):=by
 refine c7 func250 O ntmps250 (by kernel_rfl) fun w0 H0=>rS<|cI<|ak 3 O<|ah<|rS<|cM<|cJ Me O<|cN<|ak 387 O<|ai<|jj [0,1,7] O (σ:=Int) (fun s1=>[(8,.val (TiZ s1))]) q O (fun k2 s1 q=>?_)
 refine rS<|cL O O<|ak 899 O<|ah<|gc O q (fun hb3 q=>?_) fun hb3 q=>?_
 ·refine aj<|aw<|ah<|ai<|rS<|cM<|cA<|ak 419 O ?_
  obtain⟨x4,h5,x6,h7,q⟩:=b2 q;refine rS<|cM<|cM<|cM<|cP (oX Vl (dI O) O O h5)<|cR O Ca<|cP (qQ O h7 (aJ.cons (aT O) aJ.nil))<|ak 65955 O<|gc O q (fun Y q=>?_) fun Y q=>?_
  ·refine rS<|cM<|cA<|cF [4] O ?_
   cases q;exact an (r1 O)
  ·refine aj (aw ?_);obtain⟨x9,kG,q⟩:=ab q;exact rK<|cH O kG<|cO (oM O)<|ak 387 O (cm q O)
 ·refine aN<|aw<|rS<|cI<|cF [4] O ?_
  cases q;exact an (r1 O)
def np{a0 a1 r}(q:jh a0 a1=some r):al prog 169 [(TL (TP dH)) a0,(Fj prog (fun(x:((ard (ard (V3×Rat)))×(ard (ard V3))×(ard (V3×Rat))))=>[(TP dH) x]) (fun(x:Bool)=>[aY x])) a1] (.vs [aY r]):=by
 refine c7 func169 O ntmps169 (by kernel_rfl) fun w0 H0=>rS<|cB<|ak 3 O ?_
 obtain⟨x1,h2,q⟩:=ab q;refine rS<|cM<|cM<|cC (oe h2) O<|cP (jG (aT O) aI)<|cA<|cF [4] O ?_
 cases q;exact an (r1 O)
def FA{a0 a1 a2 r}(q:An a0 a1 a2=some r):al prog 90 [(TL (TP dH)) a0,ar a1,ar a2] (.vs [aY r]):=by
 refine c7 func90 O ntmps90 (by kernel_rfl) fun w0 H0=>rS<|cX<|cX<|cB<|ak 49 O ?_
 obtain⟨x1,h2,q⟩:=ab q;refine rS<|cM<|cG (pT (t:=4) O)<|cG (pT (t:=5) O)<|cP (zd (A:=fun(x:((ard (ard (V3×Rat)))×(ard (ard V3))×(ard (V3×Rat))))=>[(TP dH) x]) (R:=fun(x:Bool)=>[aY x]) (fn:=fun x=>wF x a1 a2) (aJ.cons (aT O) (aJ.cons (aT O) aJ.nil)) (fun _ _ h=>KY (D:=DR.strict) h))<|cC (np h2) O<|cA<|cF [6] O ?_
 cases q;exact an (r1 O)
def y7{a0 r}(q:v7 a0=some r):al prog 193 [aR a0] (.vs [ar r]):=by
 refine c7 func193 O ntmps193 (by kernel_rfl) fun w0 H0=>rS<|cX<|cT bY<|ak 6 O ?_
 obtain⟨x1,h2,q⟩:=ab q;refine gE 7 mixed<|dP [1] O (iO O mO O)<|dP [3,1] O (oP 0 O O d)<|dP [1] O (iO O mO O)<|dP [5,1] O (oP 1 O O d)<|dP [] O (oC (Lq h2) O)<|dP [4,6,7] O (bA rl M O O)<|dS [2,8] O (ds O O O g)<|dN<|dE [2] O (by kernel_rfl)<|cD ?_
 cases q;exact an (q1 O g)
def Jh{a0 a1 a2 a3 r}(q:A3 a0 a1 a2 a3=some r):fF prog 114 [] (.qH 193 true [.map 300 299 0 0 (mM bK (fun v=> .val (ig v)) a0.1),.map 300 224 226 8 (mM bK (fun v=> .buf (lT aS v)) a0.2.1),.map 300 224 226 8 (mM bK (fun v=> .buf (lT aS v)) a0.2.2)]) (.qH 193 true [.map 300 299 0 0 (mM bK (fun v=> .val (ig v)) r.1),.map 300 224 226 8 (mM bK (fun v=> .buf (lT aS v)) r.2.1),.map 300 224 226 8 (mM bK (fun v=> .buf (lT aS v)) r.2.2)]) [aR a1,aR a2,aY a3] []:=by
 refine uS (N:=90) func114 O ntmps114 (by simp) ajc O O fun w1 v w0 H0 hk=>?_
 refine lP (sS [0,1,2,3,90] O) ?_;refine rS<|cX<|cX<|cF [0,3,5,6,90] O ?_
 obtain⟨x1,h2,x3,h4,x5,h6,q⟩:=b3 q;refine gE 8 mixed<|dP [5] O (ae O kc)<|dP [13] O (oC (y7 h2) O)<|dP [6] O (ae O kc)<|dP [15] O (oC (y7 h4) O)<|dP [14,16] O (bB Mq Q0 O)<|dP [17] O (oC (Fy h6) O)<|dP [] O (gW Eg)<|dS [8,18] O (ds O O O JJ)<|dN<|dE [0,3,5,6,8,90] O (by kernel_rfl)<|cD ?_
 refine rS<|cK O tP<|cP (cg O M aI (by decide) (by decide))<|cP (b9 O O (aP.trans (aP.agg (i:=0) O O) O (aP.agg (i:=0) O O)) d)<|cK O tP<|cP (cg O M aI (by decide) (by decide))<|cP (b9 O O (aP.trans (aP.agg (i:=0) O O) O (aP.agg (i:=1) O O)) d)<|cP (bA Ed mO O O)<|cK O DZ<|cP (cg O M aI (by decide) (by decide))<|cP (b9 O O (aP.trans (aP.agg (i:=1) O O) O (aP.agg (i:=0) O O)) d)<|cK O DZ<|cP (cg O M aI (by decide) (by decide))<|cP (b9 O O (aP.trans (aP.agg (i:=1) O O) O (aP.agg (i:=1) O O)) d)<|cP (bA Ed mO O O)<|cP (bB aax aek O)<|cT PA<|cs O O O Gh<|cF [0,3,5,6,8,9,90] O ?_
 obtain⟨x7,h8,x9,kG,q⟩:=b2 q;refine gE 9 mixed<|dQ 0 O Oa O kc<|dP [35] O (oC (kg h8) O)<|dQ 1 O N9 O kc<|dP [38] O (oC (kg kG) O)<|dP [36,39] O (bA Qy ajs O O)<|dP [] O (gW Qy)<|dS [10,40] O (ds O O O Gg)<|dN<|dE [0,3,5,6,8,9,10,90] O (by kernel_rfl)<|cD ?_
 refine ah<|Mi (k:=91) (t:=0) O O fun b0=>?_
 refine lP (sS [0,3,5,6,8,9,10,90,91] O) ?_;refine R7 (k:=7) O [[(41,[0])],[(42,[0])],[(43,[0])],[(44,[]),(0,[44])],[(45,[])],[(46,[])],[(44,[])]] [0,0] [[],[0],[0,1],[0,1,2],[],[],[0,1,2,3,4,5]] [[91],[41],[42],[43,0],[10],[9],[44,45,46]] [true,true,true,true,true,true,false] mixed (by kernel_rfl) (cd.cons (sS [91] O) (DA (k:=91) O) O O (bU O) (cd.cons (sS [41] O) (xn O) O O (bU O) (cd.cons (sS [42] O) (jr O Us) O O (bU O) (cd.two (sS [43,0] O) (MX (i:=0) true (iV.ptr O) O O O O abO (bU O) O) (cd.cons (sS [10] O) (ae O Gg) O O (bU O) (cd.cons (sS [9] O) (ae O Gh) O O (bU O) (cd.store (sS [44,45,46] O) (aet (F:=ig) (x:=(x7,x9)) (y:=((x5.1.1,x5.1.2.1),(x5.2.1,x5.2.2.1))) Xs T6 jD.own O (aT O) (aT O)) (cd.nil)))))))) O O (sS [0,3,5,6,8,10,44,90] O) (ft.ghost (wc (t:=0) (u:=44) (i:=0) O O O O) (ft.fin (sS [0,3,5,6,8,10,90] O))) (aw ?_);obtain⟨iM,qC,iW,nJ,kd,S,iP,T,q⟩:=b4 q;refine gE 14 mixed<|dP [5] O (ae O kc)<|dP [47] O (oC (y7 qC) O)<|dQ 0 O tP O g<|dP [48,50] O (oC (l9 nJ) O)<|dP [6] O (ae O kc)<|dP [52] O (oC (y7 S) O)<|dQ 0 O tP O g<|dP [53,55] O (oC (l9 T) O)<|dP [] O (gW V)<|dP [] O (gW V)<|dS [11,51] O (ds O O O d)<|dS [12,56] O (ds O O O d)<|dN<|dE [0,3,10,11,12,90] O (by kernel_rfl)<|cD ?_
 refine ah ?_;obtain⟨ju,Z,q⟩:=ab q;refine rS<|cU O d<|cU O d<|cC (qN Z) O<|cP (cq (aT O) aI)<|cF [0,3,10,11,12,60,90] O ?_
 refine uU [0,3,10,90] O (α:=Rat×Rat) (fun xl=>[(11,.own 87 (aX xl.1)),(12,.own 87 (aX xl.2))]) q (fun Sq q=>?_) (fun xl q=>?_)
 ·refine gc O q (fun N2 q=>?_) fun N2 q=>?_
  ·exact rK<|cU O d<|cU O d<|cs O O O d<|cs O O O d<|cF [0,3,10,11,12,90] O (cm q O)
  ·exact aj (cm q O)
 ·refine aw ?_;refine rS<|cM<|cF [0,10,11,12,63,90] O ?_
  refine gc O q (fun N1 q=>?_) fun N1 q=>?_
  ·refine Mi (k:=91) (t:=0) O O fun b0=>?_
   refine lP (sS [0,10,11,12,63,90,91] O) ?_;obtain⟨nZ,Ba,q⟩:=ab q;cases q;exact R7 (k:=14) O [[(64,[0])],[(65,[0])],[(66,[0])],[(67,[]),(0,[67])],[(68,[])],[(70,[])],[(71,[])],[(72,[])],[(73,[])],[(74,[]),(67,[]),(165,[74])],[(69,[]),(74,[])],[(75,[]),(69,[])],[(76,[])],[(67,[]),(75,[])]] [0,0] [[],[0],[0,1],[0,1,2],[],[],[],[5,6],[5,6,7],[0,1,2,3,4,5,6,7,8],[0,1,2,3,4,5,6,7,8,9],[0,1,2,3,4,5,6,7,8,9,10],[0,1,2,3,4,5,6,7,8,9],[0,1,2,3,4,5,6,7,8,9,10,11,12]] [[91],[64],[65],[66,0],[10],[11],[12],[70,71],[72],[67,68],[74],[69,73],[165],[67,75,76]] [true,true,true,true,true,true,true,true,true,true,true,true,true,false] mixed (by kernel_rfl) (cd.cons (sS [91] O) (DA (k:=91) O) O O (bU O) (cd.cons (sS [64] O) (xn O) O O (bU O) (cd.cons (sS [65] O) (jr O Uq) O O (bU O) (cd.two (sS [66,0] O) (MX (i:=2) true (iV.ptr O) O O O O RN (bU O) O) (cd.cons (sS [10] O) (ae O Gg) O O (bU O) (cd.cons (sS [11] O) (ae O d) O O (bU O) (cd.cons (sS [12] O) (ae O d) O O (bU O) (cd.cons (sS [70,71] O) (bB CV Hn O) O O (bU O) (cd.cons (sS [72] O) (bS lZ GD O O) O O (bU O) (cd.three (sS [67,68] O) (SX (x:=(x7,x9)) (z:=([]:ard (Rat×Rat))) LG T6 UZ O jD.own O (aT O) (bU O) O) (cd.two (sS [74] O) (WS O (bU O) O) (cd.afM [] (sS [69,73] O) (Mh nG GG (dI O) O (aT O) Ba (bU O)) (cd.cons (sS [165] O) (abo (u:=165) O) O O (bU O) (cd.Vd (sS [67,75,76] O) (Xb (x:=(x7,x9)) (z:=[]) (y:=nZ) jD.own O (aT O) O O) (cd.nil))))))))))))))) O O (sS [0,67,90] O) (ft.ghost (wc (t:=0) (u:=67) (i:=2) O O O O) (ft.fin (sS [0,90] O))) (Wy hk O bu.nil O O O O)
  ·refine Mi (k:=91) (t:=0) O O fun b0=>?_
   refine lP (sS [0,10,11,12,63,90,91] O) ?_;obtain⟨oN,CP,q⟩:=ab q;cases q;exact R7 (k:=14) O [[(77,[0])],[(78,[0])],[(79,[0])],[(80,[]),(0,[80])],[(81,[])],[(83,[])],[(84,[])],[(85,[])],[(86,[])],[(87,[]),(80,[]),(178,[87])],[(82,[]),(87,[])],[(88,[]),(82,[])],[(89,[])],[(80,[]),(88,[])]] [0,0] [[],[0],[0,1],[0,1,2],[],[],[],[5,6],[5,6,7],[0,1,2,3,4,5,6,7,8],[0,1,2,3,4,5,6,7,8,9],[0,1,2,3,4,5,6,7,8,9,10],[0,1,2,3,4,5,6,7,8,9],[0,1,2,3,4,5,6,7,8,9,10,11,12]] [[91],[77],[78],[79,0],[10],[11],[12],[83,84],[85],[80,81],[87],[82,86],[178],[80,88,89]] [true,true,true,true,true,true,true,true,true,true,true,true,true,false] mixed (by kernel_rfl) (cd.cons (sS [91] O) (DA (k:=91) O) O O (bU O) (cd.cons (sS [77] O) (xn O) O O (bU O) (cd.cons (sS [78] O) (jr O Ur) O O (bU O) (cd.two (sS [79,0] O) (MX (i:=1) true (iV.ptr O) O O O O RN (bU O) O) (cd.cons (sS [10] O) (ae O Gg) O O (bU O) (cd.cons (sS [11] O) (ae O d) O O (bU O) (cd.cons (sS [12] O) (ae O d) O O (bU O) (cd.cons (sS [83,84] O) (bB CV Hn O) O O (bU O) (cd.cons (sS [85] O) (bS lZ GD O O) O O (bU O) (cd.three (sS [80,81] O) (SX (x:=(x7,x9)) (z:=([]:ard (Rat×Rat))) LG T6 UZ O jD.own O (aT O) (bU O) O) (cd.two (sS [87] O) (WS O (bU O) O) (cd.afM [] (sS [82,86] O) (Mh nG GG (dI O) O (aT O) CP (bU O)) (cd.cons (sS [178] O) (abo (u:=178) O) O O (bU O) (cd.Vd (sS [80,88,89] O) (Xb (x:=(x7,x9)) (z:=[]) (y:=oN) jD.own O (aT O) O O) (cd.nil))))))))))))))) O O (sS [0,80,90] O) (ft.ghost (wc (t:=0) (u:=80) (i:=1) O O O O) (ft.fin (sS [0,90] O))) (Wy hk O bu.nil O O O O)
def pS{a0 a1 r}(q:eQ a0 a1=some r):al prog 194 [ig a0,aX a1] (.vs [aR r]):=by
 refine c7 func194 O ntmps194 (by kernel_rfl) fun w0 H0=>rS<|cX<|cX<|cT xL<|ak 28 O ?_
 obtain⟨x1,h2,x3,h4,x5,h6,x7,h8,q⟩:=b4 q;refine gE 20 mixed<|dP [2] O (a8 O N9)<|dP [5,2] O (cg O mO aI (by decide) (by decide))<|dP [6,2] O (b9 O O (aP.trans (aP.agg (i:=1) O O) O (aP.agg (i:=0) O O)) d)<|dP [2] O (a8 O Oa)<|dP [8,2] O (cg O mO aI (by decide) (by decide))<|dP [9,2] O (b9 O O (aP.trans (aP.agg (i:=0) O O) O (aP.agg (i:=0) O O)) d)<|dP [3] O (ae O d)<|dP [10,11] O (oC (kh h2) O)<|dP [7,12] O (oC (Dj h4) O)<|dP [2] O (a8 O N9)<|dP [14,2] O (cg O mO aI (by decide) (by decide))<|dP [15,2] O (b9 O O (aP.trans (aP.agg (i:=1) O O) O (aP.agg (i:=1) O O)) d)<|dP [2] O (a8 O Oa)<|dP [17,2] O (cg O mO aI (by decide) (by decide))<|dP [18,2] O (b9 O O (aP.trans (aP.agg (i:=0) O O) O (aP.agg (i:=1) O O)) d)<|dP [3] O (ae O d)<|dP [19,20] O (oC (kh h6) O)<|dP [16,21] O (oC (Dj h8) O)<|dP [13,22] O (bA Ed mO O O)<|dS [4,23] O (ds O O O kc)<|dN<|dE [4] O (by kernel_rfl)<|cD ?_
 cases q;exact an (q1 O kc)
def MO{a0 a1 r}(q:tq a0 a1=some r):al prog 195 [(TL aS) a0,(TL aS) a1] (.vs [(TL aS) r]):=by
 refine c7 func195 O ntmps195 (by kernel_rfl) fun w0 H0=>rS<|cP (ba aS 226 8)<|ak 3 O<|rS<|cP (ba aS 226 8)<|ak 35 O<|ah<|rS<|cM<|cJ nG O<|cN<|ak 14370 O<|ai<|jj [1,11,12] O (σ:=(ard (Rat×Rat))×Int) (fun s1=>[(5,.buf 226 8 (lT aS s1.1)),(13,.val (TiZ s1.2))]) q O (fun k2 s1 q=>?_)
 refine rS<|cL O O<|ak 30754 O<|ah<|gc O q (fun hb3 q=>?_) fun hb3 q=>?_
 ·refine aj<|aw<|ah<|uU [1,11,12,13] O (α:=(ard (Rat×Rat))) (fun s4=>[(5,.buf 226 8 (lT aS s4))]) q (fun k5 q=>?_) (fun s4 q=>?_)
  ·refine ai ?_;obtain⟨x6,h7,q⟩:=ab q;refine rS<|cP (oX Br (dI O) O O h7)<|cR O tK<|cT lZ<|cs O O O tK<|ak 14498 O<|rS<|jg 0 O rh O d<|cT V<|cs O O O d<|ak 14754 O<|ah<|rS<|cM<|cJ nG O<|cN<|ak 3684770 O<|ai<|jj [1,7,11,12,13,19,20] O (σ:=(ard (Rat×Rat))×Rat×Int) (fun s8=>[(5,.buf 226 8 (lT aS s8.1)),(8,.own 87 (aX s8.2.1)),(21,.val (TiZ s8.2.2))]) q O (fun k9 s8 q=>?_)
   refine rS<|cL O O<|ak 7879074 O<|ah<|gc O q (fun wO q=>?_) fun wO q=>?_
   ·refine aj<|aw<|ah<|uU [1,7,11,12,13,19,20,21] O (α:=(ard (Rat×Rat))×Rat) (fun Jp=>[(5,.buf 226 8 (lT aS Jp.1)),(8,.own 87 (aX Jp.2))]) q (fun Md q=>?_) (fun Jp q=>?_)
    ·refine ai ?_;obtain⟨iW,nJ,q⟩:=ab q;refine rS<|cP (oX Br (dI O) O O nJ)<|cR O tK<|cT lZ<|cs O O O tK<|ak 3685794 O<|ah ?_
     obtain⟨kd,S,q⟩:=ab q;obtain⟨iP,T,q⟩:=aH q;refine rS<|jg 1 O nb O d<|cU O d<|cC (qN S) O<|cP (yc (aT O) aI)<|cM<|gV O O (ov 10 O on) (fun rW=>a8 O rh)<|gV O O (oo 31 O id (ov 10 O on)) (fun hg2=>oP 0 O O d)<|gV O O (ov 7 O on) (fun P=>a8 O nb)<|gV O O (oo 33 O id (ov 7 O on)) (fun wk=>oP 1 O O d)<|gV O O (oo 32 O id (oo 34 O id on)) (fun Az=>oC (qN (T Az)) O)<|gV O O (oo 35 O id on) (fun CL=>jG (aT O) aI)<|cP (fO (aT O) O jY)<|ak 137442639266 O ?_
     refine gc O q (fun acz q=>?_) fun acz q=>?_
     ·exact aN (cm q O)
     ·refine aj<|aw<|ah ?_
      obtain⟨kR,h21,q⟩:=ab q;refine rS<|jg 0 O rh O d<|cU O d<|cC (qN h21) O<|cP (cq (aT O) aI)<|ak 4398050196898 O<|uU [1,7,8,10,11,12,13,19,20,21] O (α:=(ard (Rat×Rat))) (fun s22=>[(5,.buf 226 8 (lT aS s22))]) q (fun k23 q=>?_) (fun s22 q=>?_)
      ·refine gc O q (fun N1 q=>?_) fun N1 q=>?_
       ·obtain⟨nZ,Ba,q⟩:=ab q;exact rK<|cQ<|cU O d<|jg 0 O rh O d<|cP (bB CV Hn O)<|cP (bS lZ GD O O)<|cS (dp nG GG (dI O) O O (aT O) Ba (bU O))<|cS (bt O O (bU O) _ (Or.inl O))<|ak 3685794 O (cm q O)
       ·exact aj (cm q O)
      ·refine aw ?_;exact rK<|jg 1 O nb O d<|cs O O O d<|ak 3684770 O (cm q O)
    ·refine aw ?_;obtain⟨oN,CP,q⟩:=ab q;exact rK<|cH O CP<|cO (oM O)<|ak 3684770 O (cm q O)
   ·refine aN (aw ?_);obtain⟨Ax,IM,q⟩:=ab q;refine rS<|cU O d<|jg 1 O nb O d<|cC (qN IM) O<|cP (eC (aT O) aI)<|ak 144115188075870626 O<|gc O q (fun ais q=>?_) fun ais q=>?_
    ·obtain⟨qf,JW,q⟩:=ab q;exact rK<|cQ<|cU O d<|jg 1 O nb O d<|cP (bB CV Hn O)<|cP (bS lZ GD O O)<|cS (dp nG GG (dI O) O O (aT O) JW (bU O))<|cS (bt O O (bU O) _ (Or.inl O))<|ak 14370 O (cm q O)
    ·exact aj (cm q O)
  ·refine aw ?_;obtain⟨yX,N6,q⟩:=ab q;exact rK<|cH O N6<|cO (oM O)<|ak 14370 O (cm q O)
 ·refine aN<|aw<|rS<|cQ<|cG (ij (t:=5) O)<|cG (jL (s:=66) O O)<|cA<|cF [4] O ?_
  cases q;exact an (r1 O)
end
end Trn
