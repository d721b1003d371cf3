/-
  Part of the proof of DrawViews.
-/
import Derived.Test.YtgmphoejohhmgaaGreatDoorWg
set_option maxRecDepth 100000
set_option maxHeartbeats 20000000
set_option linter.all false
open Go Go.RowKit Go.Proofs Go.Proofs.Tryz
namespace Trn
section
variable[D:DR]
def j7{a0 a1 r}(q:iT a0 a1=some r):al prog 145 [aR a0,aR a1] (.vs [TiZ r]):=by
 refine c7 func145 O ntmps145 (by kernel_rfl) fun w0 H0=>rS<|cX<|cX<|cI<|ak 12 O ?_
 obtain⟨x1,h2,x3,h4,x5,h6,q⟩:=b3 q;refine gE 13 mixed<|dP [2] O (iO O mO O)<|dP [5,2] O (oP 0 O O d)<|dP [3] O (iO O mO O)<|dP [7,3] O (oP 0 O O d)<|dP [6,8] O (oC (qN h2) O)<|dP [2] O (iO O mO O)<|dP [10,2] O (oP 1 O O d)<|dP [3] O (iO O mO O)<|dP [12,3] O (oP 1 O O d)<|dP [11,13] O (oC (qN h4) O)<|dP [9,14] O (bS oW rZ O O)<|dP [15] O (oC (xh h6) O)<|dP [16] O (oA O)<|dN<|dE [4] O (by kernel_rfl)<|cD ?_
 cases q;exact an (r1 O)
def wX{a0 a1 r}(q:kN a0 a1=some r):al prog 165 [gJ a0,gJ a1] (.vs [TiZ r]):=by
 refine c7 func165 O ntmps165 (by kernel_rfl) fun w0 H0=>rS<|cX<|cX<|cI<|ak 12 O<|rS<|cI<|ak 44 O<|ah<|uU [2,3] O (α:=Int) (fun s1=>[(5,.val (TiZ s1))]) q (fun k2 q=>?_) (fun s1 q=>?_)
 ·refine ai<|rS<|jg 2 O D2 O xD<|cM<|gV O O (ov 3 O on) (fun rW=>a8 O D2)<|gV O O (oo 10 O id (ov 3 O on)) (fun hg2=>oP 2 O O xD)<|gV O O (oo 11 O id on) (fun P=>jF (aT O))<|cP (dh (aT O) O je)<|cA<|ak 108 O<|gc O q (fun hb3 q=>?_) fun hb3 q=>?_
  ·exact rK<|cO (aA aI)<|ak 44 O (cm q O)
  ·refine rS<|jg 2 O D2 O xD<|cM<|gV O O (ov 2 O on) (fun wk=>a8 O D2)<|gV O O (oo 18 O id (ov 2 O on)) (fun Az=>oP 2 O O xD)<|gV O O (oo 19 O id on) (fun CL=>jF (aT O))<|cP (dh (aT O) O je)<|cA<|ak 16428 O<|gc O q (fun Lf q=>?_) fun Lf q=>?_
   ·exact rK<|cO (aA aI)<|ak 44 O (cm q O)
   ·exact aj (cm q O)
 ·refine aw ?_;obtain⟨x5,h6,x7,h8,x9,kG,q⟩:=b3 q;refine gE 14 mixed<|dQ 0 O D4 O kc<|dQ 0 O D4 O kc<|dP [23,25] O (oC (j7 h6) O)<|dQ 1 O D3 O kc<|dQ 1 O D3 O kc<|dP [28,30] O (oC (j7 h8) O)<|dP [5] O (oM O)<|dP [26,31,32] O (bS oW rZ O O)<|dP [33] O (oC (xh kG) O)<|dP [34] O (oA O)<|dN<|dE [4] O (by kernel_rfl)<|cD ?_
  cases q;exact an (r1 O)
def F3{a0 r}(q:rM a0=some r):al prog 117 [(TP I4) a0] (.vs [(TL gJ) r]):=by
 unfold rM at q;refine c7 func117 O ntmps117 (by kernel_rfl) fun w0 H0=>rS<|cP (ba gJ 188 17)<|ak 1 O<|rS<|cP (ba gJ 188 17)<|ak 9 O<|ah<|rS<|cM<|cP (sX (aT O))<|cP (eG (aT O) O (aP.agg (i:=0) O O) Us)<|cR O abO<|cP (Nv Xs (aT O))<|ak 32777 O<|ai<|R6 (it:=15) (fun(p:((adx×adx)×(adx×adx))×((Rat×Rat)×(Rat×Rat)))=>(bK p.1,ig p.2)) (σ:=(ard ((Rat×Rat)×(Rat×Rat)×Bool))) (fun s1=>[(0,.val ((TP I4) a0)),(3,.buf 188 17 (lT gJ s1))]) (By q) (sS [15,0,3] O) (fun seen s1 hT hE=>?_)
 refine ah<|Wg O (sS [0,3] O) O O (fun j hj hn=>aw ?_) (fun hE2=>aw ?_)
 ·obtain⟨x2,hx⟩:=aiU hj;obtain⟨z3,q⟩:=hT j x2 hx hn;have hf:=q;refine ah (rY O (fun _=>aj (aw ?_)) (fun h=>by cases h));refine ai<|rS<|cP (Ny (k:=bK x2.1) (e:=ig x2.2) O (by simp[hx]))<|cE<|cE<|cT Qy<|cT PA<|cs O O O Gg<|cs O O O Gh<|ak 32825 O ?_
  obtain⟨h4,q⟩:=rE q;obtain⟨x5,h6,q⟩:=ab q;refine gE 8 mixed<|dP [0] O (oM O)<|dP [21] O (sX (aT O))<|dP [22] O (eG (aT O) O (aP.agg (i:=1) O O) Ur)<|dP [23] O (aU (aT O) RN)<|dP [4] O (ae O Gg)<|dP [24,25] O (Rh (x:=x2.1) (f:=aS) LG T6 GP (aT O) (aT O) h4)<|dP [26] O (oC (Bk h6) O)<|dP [27] O (oA O)<|dN<|dE [0,3,4,5,6,15] O (by kernel_rfl)<|cD<|ah<|rS<|cM<|cJ nG O<|cN<|ak 1879081081 O<|ai<|jj [0,4,5,6,15,28,29] O (σ:=(ard ((Rat×Rat)×(Rat×Rat)×Bool))×Int) (fun s7=>[(3,.buf 188 17 (lT gJ s7.1)),(30,.val (TiZ s7.2))]) q O (fun k8 s7 q=>?_)
  refine rS<|cL O O<|ak 4026564729 O<|ah<|gc O q (fun N0 q=>?_) fun N0 q=>?_
  ·refine aj<|aw<|ah<|ai ?_
   obtain⟨dz,jv,q⟩:=ab q;refine rS<|cP (oX Br (dI O) O O jv)<|cR O tK<|cT lZ<|cs O O O tK<|ak 1879081337 O ?_
   obtain⟨fp,kU,gp,mu,gS,Q,q⟩:=b3 q;refine gD 13 mixed<|dP [3] O (eI)<|dP [5] O (ae O Gh)<|dQ 0 O rh O d<|dP [35,37] O (oC (pS kU) O)<|dP [5] O (ae O Gh)<|dQ 1 O nb O d<|dP [39,41] O (oC (pS mu) O)<|dP [38,42] O (bB Mp QZ O)<|dP [43] O (bS AB adn O O)<|dG [34] [34,44,3] O (pB Mf ads (dI O) O O (aT O) Q (bU O))<|dG [] [45] O (tO O O (bU O) _ (Or.inl O))<|dN<|dE [0,3,4,5,6,15,28,29,30] O (by kernel_rfl)<|cD (aw ?_)
   obtain⟨iZ,qi,q⟩:=ab q;exact rK<|cH O qi<|cO (oM O)<|ak 1879081081 O (cm q O)
  ·refine aN (aw ?_);obtain⟨Z,q⟩:=rE q;obtain⟨kQ,wb,kP,wP,q⟩:=b2 q;refine gE 11 mixed<|dP [0] O (oM O)<|dP [47] O (sX (aT O))<|dP [48] O (eG (aT O) O (aP.agg (i:=2) O O) Uq)<|dP [49] O (aU (aT O) RN)<|dP [4] O (ae O Gg)<|dP [50,51] O (Rh (x:=x2.1) (f:=aS) LG T6 GP (aT O) (aT O) Z)<|dP [52] O (oC (Bk wb) O)<|dP [6] O (oM O)<|dP [53,54] O (oC (MO wP) O)<|dP [55] O (pW nG (aT O))<|dP [] O (HN aI)<|dN<|dE [0,3,5,15,55,56,57] O (by kernel_rfl)<|cD<|ai<|jj [0,5,15,55,56] O (σ:=(ard ((Rat×Rat)×(Rat×Rat)×Bool))×Int) (fun qn=>[(3,.buf 188 17 (lT gJ qn.1)),(57,.val (TiZ qn.2))]) q O (fun NO qn q=>?_)
   refine rS<|cL O O<|ak 540431955284492329 O<|ah<|gc O q (fun Wc q=>?_) fun Wc q=>?_
   ·refine aj<|aw<|ah<|ai ?_
    obtain⟨oY,Fi,q⟩:=ab q;refine rS<|cP (oX Br (dI O) O O Fi)<|cR O tK<|cT lZ<|cs O O O tK<|ak 252201579132781609 O ?_
    obtain⟨qE,CO,qf,JW,yX,N6,q⟩:=b3 q;refine gD 13 mixed<|dP [3] O (eI)<|dP [5] O (ae O Gh)<|dQ 0 O rh O d<|dP [62,64] O (oC (pS CO) O)<|dP [5] O (ae O Gh)<|dQ 1 O nb O d<|dP [66,68] O (oC (pS JW) O)<|dP [65,69] O (bB Mp QZ O)<|dP [70] O (bS AB adn O O)<|dG [61] [61,71,3] O (pB Mf ads (dI O) O O (aT O) N6 (bU O))<|dG [] [72] O (tO O O (bU O) _ (Or.inl O))<|dN<|dE [0,3,5,15,55,56,57] O (by kernel_rfl)<|cD (aw ?_)
    obtain⟨uj,R5,q⟩:=ab q;exact rK<|cH O R5<|cO (oM O)<|cF [0,3,5,15,55,56,57] O (cm q O)
   ·cases q;refine aN (fun a w H hs=>?_)
    try unfold Exit.then
    try unfold Exit.inBlock
    try simp only[if_true]
    exact⟨_,_,_,hx,hn,hf,H,hs.weaken (uX.sub (sS [15,0,3] O))⟩
 ·have q:=hE hE2;refine ah (rY O (fun h=>by cases h) (fun _=>?_));refine aN (aw ?_);obtain⟨Fm,Um,q⟩:=ab q;refine rS<|cQ<|cS (jK (xs:=[]) (ys:=[.func 165]) (YZ Um) (dZ.same O) O O O aJ.nil (aJ.cons (Arg.fn fun _ _ h=>wX (D:=DR.strict) h) aJ.nil) (bU O) O)<|ak 8 O<|rS<|cQ<|cG (ij (t:=3) O)<|cG (jL (s:=76) O O)<|cA<|ak 4 O ?_
  cases q;exact an (r1 O)
def MS{a0 a1 r}(q:DM a0 a1=some r):al prog 59 [(TL (TL (TL bz))) a0,cz a1] (.vs [(TL gJ) r]):=by
 refine c7 func59 O ntmps59 (by kernel_rfl) fun w0 H0=>rS<|cX<|cP (aA (Arg.nn (f:=gJ)))<|ak 9 O ?_
 obtain⟨x1,h2,q⟩:=ab q;refine rS<|cU O kv<|cC (o0 h2) O<|cT xK<|cs O O O CG<|ak 33 O ?_
 obtain⟨x3,h4,q⟩:=ab q;refine rS<|cM<|cC (Fx h4) O<|cT ad5<|cs O O O RO<|ak 96 O ?_
 refine ah<|DU O (ft.cons (Step.pure (Gd (K:=300) (E:=299) (Eb:=0) (sz:=0) (α:=(adx×adx)×(adx×adx)) (β:=(Rat×Rat)×(Rat×Rat)) bK (fun v=> .val (ig v))) O O (bU O) O O) (ft.cons (Step.pure (Gd (K:=300) (E:=224) (Eb:=226) (sz:=8) (α:=(adx×adx)×(adx×adx)) (β:=ard (Rat×Rat)) bK (fun v=> .buf (lT aS v))) O O (bU O) O O) (ft.cons (Step.pure (Gd (K:=300) (E:=224) (Eb:=226) (sz:=8) (α:=(adx×adx)×(adx×adx)) (β:=ard (Rat×Rat)) bK (fun v=> .buf (lT aS v))) O O (bU O) O O) (ft.cons (Step.pure (aeV (wS.nK O) (wS.nK O) (wS.nK O) (fun v0 v1 v2 k0 k1 k2=>DB aaA aep (iy.cons (i:=0) (σ:=WE v0 k0) (aT O) O O (iy.cons (i:=1) (σ:=WE v1 k1) (aT O) O O (iy.cons (i:=2) (σ:=WE v2 k2) (aT O) O O iy.nil))))) O O (bU O) O O) (ft.cons (Step.pure (ae2 O (wS.nK O) (wS.nK O) (wS.nK O)) O O (bU O) O O) (ft.cons (Step.pure (Ep false aas HL (yQ.val yQ.nil)) O O (bU O) O O) (ft.cons (F8 (i:=0) (iV.box O) O O O (wS.qH O) O VO) (ft.ghost (wc (t:=25) (u:=21) (i:=0) O O O O) (ft.ghost (wc (t:=25) (u:=22) (i:=1) O O O O) (ft.ghost (wc (t:=25) (u:=23) (i:=2) O O O O) (ft.fin (sS [5,6,7,25] O)))))))))))) (aw ?_)
 refine ah<|rS<|cU O RO<|cJ Me O<|cN<|ak 503316704 O<|ai<|jj [5,6,7,26,27] O (σ:=((ard (((adx×adx)×(adx×adx))×((Rat×Rat)×(Rat×Rat))))×(ard (((adx×adx)×(adx×adx))×(ard (Rat×Rat))))×(ard (((adx×adx)×(adx×adx))×(ard (Rat×Rat)))))×Int) (fun s5=>[(25,.qH 193 true [.map 300 299 0 0 (mM bK (fun v=> .val (ig v)) s5.1.1),.map 300 224 226 8 (mM bK (fun v=> .buf (lT aS v)) s5.1.2.1),.map 300 224 226 8 (mM bK (fun v=> .buf (lT aS v)) s5.1.2.2)]),(28,.val (TiZ s5.2))]) q O (fun k6 s5 q=>?_)
 refine rS<|cL O O<|ak 1040187616 O<|ah<|gc O q (fun A9 q=>?_) fun A9 q=>?_
 ·refine aj<|aw<|ah<|ai ?_
  obtain⟨x8,h9,q⟩:=ab q;refine rS<|cP (oX Vl (dI O) O O h9)<|cR O Ca<|cA<|ak 503317216 O ?_
  obtain⟨dz,jv,q⟩:=ab q;refine rS<|cM<|cC (uf jv) O<|cJ IG O<|cN<|ak 60632858848 O<|ai<|jj [5,6,7,26,27,28,33,34] O (σ:=((ard (((adx×adx)×(adx×adx))×((Rat×Rat)×(Rat×Rat))))×(ard (((adx×adx)×(adx×adx))×(ard (Rat×Rat))))×(ard (((adx×adx)×(adx×adx))×(ard (Rat×Rat)))))×Int) (fun E9=>[(25,.qH 193 true [.map 300 299 0 0 (mM bK (fun v=> .val (ig v)) E9.1.1),.map 300 224 226 8 (mM bK (fun v=> .buf (lT aS v)) E9.1.2.1),.map 300 224 226 8 (mM bK (fun v=> .buf (lT aS v)) E9.1.2.2)]),(35,.val (TiZ E9.2))]) q O (fun k13 E9 q=>?_)
  refine rS<|cL O O<|ak 129352335584 O<|ah<|gc O q (fun R4 q=>?_) fun R4 q=>?_
  ·refine aj<|aw<|ah<|uU [5,6,7,26,27,28,33,34,35] O (α:=((ard (((adx×adx)×(adx×adx))×((Rat×Rat)×(Rat×Rat))))×(ard (((adx×adx)×(adx×adx))×(ard (Rat×Rat))))×(ard (((adx×adx)×(adx×adx))×(ard (Rat×Rat)))))) (fun Ek=>[(25,.qH 193 true [.map 300 299 0 0 (mM bK (fun v=> .val (ig v)) Ek.1),.map 300 224 226 8 (mM bK (fun v=> .buf (lT aS v)) Ek.2.1),.map 300 224 226 8 (mM bK (fun v=> .buf (lT aS v)) Ek.2.2)])]) q (fun Zx q=>?_) (fun Ek q=>?_)
   ·refine ai ?_;obtain⟨iP,T,q⟩:=ab q;refine rS<|cP (oX Vm (dI O) O O T)<|cR O tL<|cT AD<|cs O O O tL<|ak 60632860896 O<|ah ?_
    obtain⟨ju,Z,kQ,wb,kP,wP,q⟩:=b3 q;refine gE 9 mixed<|dQ 1 O tQ O g<|dQ 0 O mv O g<|dP [40,42] O (oC (iB Z) O)<|dQ 3 O zI O g<|dP [43,45] O (oC (jw wb) O)<|dP [46] O (oC (ln wP) O)<|dN<|dE [5,6,7,11,25,26,27,28,33,34,35,47] O (by kernel_rfl)<|cD<|gc O q (fun R2 q=>?_) fun R2 q=>?_
    ·exact aN (cm q O)
    ·refine aj<|aw<|rS<|cP (ba aX 87 4)<|ak 60632864992 O<|ah<|rS<|cU O RO<|cJ Me O<|cN<|ak 1970385469839584 O<|ai<|jj [5,6,7,11,25,26,27,28,33,34,35,48,49] O (σ:=ard Rat×Int) (fun FE=>[(12,.buf 87 4 (lT aX FE.1)),(50,.val (TiZ FE.2))]) q O (fun VR FE q=>?_)
     refine rS<|cL O O<|ak 4222185283524832 O<|ah<|gc O q (fun acx q=>?_) fun acx q=>?_
     ·refine aj<|aw<|ah<|ai ?_
      obtain⟨Ax,IM,q⟩:=ab q;refine rS<|cP (oX Vl (dI O) O O IM)<|cR O Ca<|cA<|ak 1970385469855968 O ?_
      obtain⟨vH,Fh,xd,Gu,q⟩:=b2 q;refine rK<|cQ<|cM<|cU O tL<|jg 3 O zI O g<|cC (E5 Fh) O<|cS (dp mr Aw (dI O) O O (aT O) Gu (bU O))<|cS (bt O O (bU O) _ (Or.inl O))<|ak 1970385469839584 O (aw ?_)
      obtain⟨sK,Gt,q⟩:=ab q;exact rK<|cH O Gt<|cO (oM O)<|ak 1970385469839584 O (cm q O)
     ·refine aN (aw ?_);obtain⟨xc,JV,sf,Gs,AF,Li,q⟩:=b3 q;refine rS<|cC (Lq JV) O<|cC (Lq Gs) O<|cQ<|cG (ij (t:=12) O)<|cG (jL (s:=64) O O)<|cC (zZ Li) O<|ak 36893488208051964128 O<|ai ?_
      obtain⟨Lk,Sy,q⟩:=ab q;refine Ch (σ:=((ard (((adx×adx)×(adx×adx))×((Rat×Rat)×(Rat×Rat))))×(ard (((adx×adx)×(adx×adx))×(ard (Rat×Rat))))×(ard (((adx×adx)×(adx×adx))×(ard (Rat×Rat)))))) [5,6,7,11,25,26,27,28,33,34,35] (fun K4=>[(5,.own 93 (Ec x1)),(6,.own 166 (TL (TP dH) x3)),(7,.qH 189 false [.sm 25]),(11,.own 128 (bT iP)),(25,.qH 193 true [.map 300 299 0 0 (mM bK (fun v=> .val (ig v)) K4.1),.map 300 224 226 8 (mM bK (fun v=> .buf (lT aS v)) K4.2.1),.map 300 224 226 8 (mM bK (fun v=> .buf (lT aS v)) K4.2.2)]),(26,.val (TL (TP dH) x3)),(27,.val (TiZ (x3.length:Int))),(28,.val (TiZ s5.2)),(33,.val (TL bT dz)),(34,.val (TiZ (dz.length:Int))),(35,.val (TiZ E9.2))]) none q Sy O O O (sS [5,6,7,11,25,26,27,28,33,34,35] O) (fun _=>O) (fun G h=>by cases h) (fun _=>O) O (by decide) (fun wr Hr l rc pv Zw Sn K4 UW q=>?_) (fun K4 q=>?_) (fun G h=>by cases h)
      ·
       refine rS<|cT V<|cs O O O d<|ak 1200957539203171319732590426945757415648 O<|rK<|cT V<|cs O O O d<|ak 1200957539203171319585016474356081068256 O (Ow (sS [93,5,6,7,11,15,16,25,26,27,28,33,34,35,99,100,101,105,119,120,121,122,127,128,129] O) O ?_)
       refine ai ?_;obtain⟨KH,h50,J7,Ul,FX,Uk,Ms,h56,x57,h58,x59,h60,q⟩:=b6 q;obtain⟨x61,h62,Yx,h64,q⟩:=b2 q;exact gD 21 mixed<|dP [7,25] O (Xj (i:=0) (iV.box O) O O O O VO)<|dP [5] O (ae O CG)<|dP [11] O (ae O tL)<|dP [15] O (ae O d)<|dP [70,71] O (oC (ke h50) O)<|dP [69,72] O (oC (ox Ul) O)<|dP [5] O (ae O CG)<|dP [11] O (ae O tL)<|dP [16] O (ae O d)<|dP [75,76] O (oC (ke Uk) O)<|dP [74,77] O (oC (ox h56) O)<|dP [6] O (ae O RO)<|dP [11] O (ae O tL)<|dP [15] O (ae O d)<|dP [16] O (ae O d)<|dP [81,82] O (oC (z6 h58) O)<|dP [80,83] O (oC (ke h60) O)<|dQ 3 O zI O g<|dP [79,84,86] O (oC (FA h62) O)<|dT [68,73,78,87,25] O (SV (xs:=[]) (ys:=[.tmp 73,.tmp 78,.tmp 87]) (Jh h64) (dZ.ptr O) O O O aJ.nil (aJ.cons (aT O) (aJ.cons (aT O) (aJ.cons (aT O) aJ.nil))) (bU O) O)<|dN<|dE [5,6,7,11,25,26,27,28,33,34,35,93,99,100,101,105,119,120,121,122,127,128,129] O (by kernel_rfl)<|cD (xE (J6:=none) q (sS [93,99,100,101,105,119,120,121,122,127,128,129,5,6,7,11,25,26,27,28,33,34,35] O))
      ·
       exact(cm q O)
   ·refine aw ?_;obtain⟨x66,h67,q⟩:=ab q;exact rK<|cH O h67<|cO (oM O)<|ak 60632858848 O (cm q O)
  ·refine aN (aw ?_);obtain⟨WM,h69,q⟩:=ab q;exact rK<|cH O h69<|cO (oM O)<|ak 503316704 O (cm q O)
 ·refine aN (aw ?_);obtain⟨x70,h71,q⟩:=ab q;refine rS<|cP (Xj (i:=0) (iV.box O) O O O O VO)<|cG (Xh (t:=25) O (ua.anl (ua.xq (ua.xq ua.nil))))<|cG (akk (u:=91) O O)<|cC (F3 h71) O<|cA<|cF [4] O ?_
  cases q;exact an (r1 O)
def QM{a0 r}(q:Ia a0=some r):al prog 58 [(TL gJ) a0] (.vs [(TL gn) r.1,TiZ r.2]):=by
 refine c7 func58 O ntmps58 (by kernel_rfl) fun w0 H0=>rS<|cP (ba gn 78 5)<|cI<|ak 1 O<|ah<|rS<|cM<|cJ Mf O<|cP (cq (aT O) aI)<|ak 513 O<|gc O q (fun hb1 q=>?_) fun hb1 q=>?_
 ·refine rS<|cP (ba gn 78 5)<|cI<|ak 12 O ?_
  cases q;exact an (fi (ij (t:=2) O) (fX O O (bu.tmp O O (bu.tmp O O bu.nil))))
 ·refine aj<|aw<|rS<|cP (ba gn 78 5)<|ak 17 O<|ah<|rS<|cM<|cJ Mf O<|cN<|ak 7184 O<|ai<|jj [10,11] O (σ:=(ard ((adx×adx)×(adx×adx)×Bool))×Int) (fun s2=>[(4,.buf 78 5 (lT gn s2.1)),(12,.val (TiZ s2.2))]) q O (fun k3 s2 q=>?_)
  refine rS<|cL O O<|ak 15376 O<|ah<|gc O q (fun Lf q=>?_) fun Lf q=>?_
  ·refine aj<|aw<|ah<|ai ?_
   obtain⟨x5,h6,q⟩:=ab q;refine rS<|cP (oX ahj (dI O) O O h6)<|cR O JK<|cT AB<|cs O O O JK<|ak 7248 O<|ah ?_
   obtain⟨x7,h8,q⟩:=ab q;obtain⟨x9,kG,q⟩:=aH q;refine rS<|jg 0 O D4 O kc<|cC (nz h8) O<|cM<|gV O O (ov 6 O on) (fun rW=>a8 O D3)<|gV O O (oo 20 O id (ov 6 O on)) (fun hg2=>oP 1 O O kc)<|gV O O (oo 21 O id on) (fun P=>oC (nz (kG P)) O)<|cP (fO (aT O) O jY)<|ak 8395856 O<|gc O q (fun JU q=>?_) fun JU q=>?_
   ·refine rS<|cP (ba gn 78 5)<|cI<|ak 12 O ?_
    cases q;exact an (fi (ij (t:=2) O) (fX O O (bu.tmp O O (bu.tmp O O bu.nil))))
   ·refine aj (aw ?_);obtain⟨fp,kU,gp,mu,gS,Q,q⟩:=b3 q;refine gD 13 mixed<|dP [4] O (eI)<|dQ 0 O D4 O kc<|dP [26] O (oC (kg kU) O)<|dQ 1 O D3 O kc<|dP [29] O (oC (kg mu) O)<|dQ 2 O D2 O xD<|dP [27,30,32] O (bB FW aaM O)<|dP [33] O (bS FW agS O O)<|dG [24] [24,34,4] O (pB Gl amo (dI O) O O (aT O) Q (bU O))<|dG [] [35] O (tO O O (bU O) _ (Or.inl O))<|dN<|dE [4,10,11,12] O (by kernel_rfl)<|cD (aw ?_)
    obtain⟨iZ,qi,q⟩:=ab q;exact rK<|cH O qi<|cO (oM O)<|ak 7184 O (cm q O)
  ·refine aN<|aw<|rS<|cQ<|cG (ij (t:=4) O)<|cG (jL (s:=37) O O)<|cA<|cI<|ak 12 O ?_
   cases q;exact an (r2 O)
def QO{a0 a1 r}(q:Ic a0 a1=some r):al prog 18 [(TL (TL (TL bz))) a0,cz a1] (.vs [(TL gn) r.1,TiZ r.2]):=by
 refine c7 func18 O ntmps18 (by kernel_rfl) fun w0 H0=>rS<|cX<|cP (aA (Arg.nn (f:=gn)))<|cI<|ak 9 O<|ah ?_
 obtain⟨x1,h2,q⟩:=ab q;refine rS<|cM<|cU O kv<|cC (Hb h2) O<|cA<|ak 73 O<|rS<|cM<|cP (da (aT O) aI)<|ak 2121 O<|gc O q (fun hb3 q=>?_) fun hb3 q=>?_
 ·refine rS<|cM<|cP (aA (Arg.nn (f:=gn)))<|cA<|ak 48 O ?_
  cases q;exact an (fi (US (t:=4) O) (fX O O (bu.tmp O O (bu.tmp O O bu.nil))))
 ·refine aj (aw ?_);obtain⟨x4,h5,x6,h7,q⟩:=b2 q;refine rS<|cM<|cU O kv<|cC (MS h5) O<|cC (QM h7) O<|cE<|cE<|cA<|cA<|ak 48 O ?_
  cases q;exact an (r2 O)
def QQ{a0 r}(q:Ig a0=some r):al prog 19 [(TL (TL bz)) a0] (.vs [(TL pK) r.1,TiZ r.2]):=by
 refine c7 func19 O ntmps19 (by kernel_rfl) fun w0 H0=>rS<|cP (ba pK 129 6)<|cI<|ak 1 O<|ah ?_
 obtain⟨x1,h2,q⟩:=ab q;refine rS<|cM<|cC (nx h2) O<|cA<|ak 17 O<|rS<|cM<|cP (da (aT O) aI)<|ak 2065 O<|gc O q (fun hb3 q=>?_) fun hb3 q=>?_
 ·refine rS<|cM<|cP (ba pK 129 6)<|cA<|ak 12 O ?_
  cases q;exact an (fi (ij (t:=2) O) (fX O O (bu.tmp O O (bu.tmp O O bu.nil))))
 ·refine aj<|aw<|rS<|cP (ba pK 129 6)<|ak 33 O<|ah ?_
  obtain⟨x4,h5,x6,h7,q⟩:=b2 q;refine rS<|cM<|cC (Db h5) O<|cC (uf h7) O<|cJ IG O<|cN<|ak 229408 O<|ai<|jj [15,16] O (σ:=(ard (ate×ate))×Int) (fun s8=>[(5,.buf 129 6 (lT pK s8.1)),(17,.val (TiZ s8.2))]) q O (fun k9 s8 q=>?_)
  refine rS<|cL O O<|ak 491552 O<|ah<|gc O q (fun wO q=>?_) fun wO q=>?_
  ·refine aj<|aw<|ah<|ai ?_
   obtain⟨iM,qC,q⟩:=ab q;refine rS<|cP (oX Vm (dI O) O O qC)<|cR O tL<|cT AD<|cs O O O tL<|ak 229536 O<|ah ?_
   obtain⟨iW,nJ,q⟩:=ab q;obtain⟨kd,S,q⟩:=aH q;refine rS<|jg 0 O mv O g<|cC (l5 nJ) O<|cM<|gV O O (ov 7 O on) (fun rW=>a8 O tQ)<|gV O O (oo 25 O id (ov 7 O on)) (fun hg2=>oP 1 O O g)<|gV O O (oo 26 O id on) (fun P=>oC (l5 (S P)) O)<|cP (fO (aT O) O jY)<|ak 268664992 O<|gc O q (fun JS q=>?_) fun JS q=>?_
   ·refine rS<|cP (ba pK 129 6)<|cI<|ak 12 O ?_
    cases q;exact an (fi (ij (t:=2) O) (fX O O (bu.tmp O O (bu.tmp O O bu.nil))))
   ·refine aj (aw ?_);obtain⟨iZ,qi,kR,h21,my,Cf,q⟩:=b3 q;refine gD 11 mixed<|dP [5] O (eI)<|dQ 0 O mv O g<|dP [31] O (oC (lC qi) O)<|dQ 1 O tQ O g<|dP [34] O (oC (lC h21) O)<|dP [32,35] O (bA WH ajt O O)<|dP [36] O (bS WH amh O O)<|dG [29] [29,37,5] O (pB abX amn (dI O) O O (aT O) Cf (bU O))<|dG [] [38] O (tO O O (bU O) _ (Or.inl O))<|dN<|dE [5,15,16,17] O (by kernel_rfl)<|cD (aw ?_)
    obtain⟨sE,Gv,q⟩:=ab q;exact rK<|cH O Gv<|cO (oM O)<|ak 229408 O (cm q O)
  ·refine aN<|aw<|rS<|cQ<|cG (ij (t:=5) O)<|cG (jL (s:=40) O O)<|cA<|cI<|ak 12 O ?_
   cases q;exact an (r2 O)
def G8{r:(ate×ate×ate)}(q:BO=some r):al prog 21 [] (.vs [cz r]):=by
 refine c7 func21 O ntmps21 (by kernel_rfl) fun w0 H0=>rS<|cT zR<|ak 1 O ?_
 obtain⟨x1,h2,x3,h4,x5,h6,q⟩:=b3 q;refine rS<|cC (sN h2) O<|cC (gL h4) O<|cC (gL h6) O<|cP (bB zR M5 O)<|cs O O O kv<|ak 1 O ?_
 cases q;exact an (q1 O kv)
def G2{a0 r}(q:zo a0=some r):al prog 65 [(TL bz) a0] (.vs [TiZ r]):=by
 refine c7 func65 O ntmps65 (by kernel_rfl) fun w0 H0=>rS<|cI<|ak 1 O ?_
 obtain⟨x1,h2,q⟩:=ab q;refine rS<|cM<|cC (rm h2) O<|cZ<|cE<|cE<|cA<|cA<|cF [4] O<|rS<|cM<|cA<|ak 4 O ?_
 cases q;exact an (r1 O)
def pO{a0 r}(q:km a0=some r):al prog 213 [(TN aK) a0] (.fr 237 17 (lT aK r)):=by
 refine c7 func213 O ntmps213 (by kernel_rfl) fun w0 H0=>rS<|cP (ba aK 237 17)<|ak 1 O<|ah<|rS<|cM<|cP (qo rC (aT O))<|ak 17 O<|gc O q (fun hb1 q=>?_) fun hb1 q=>?_
 ·refine rS<|cP (ba aK 237 17)<|ak 4 O ?_
  cases q;exact an (wQ O O O O)
 ·refine aj (aw ?_);obtain⟨x2,h3,q⟩:=ab q;refine rS<|cP (IW aK Sd)<|cM<|cS (xk rC Sf (dI O) O ((aT O).imp Yk) h3 (bU O))<|cS (bt O O (bU O) _ (Or.inl O))<|ak 4 O ?_
  cases q;exact an (wQ O O O O)
def xf{a0 a1 c0 r}(q:kT a0 a1 c0=some r):al prog 287 [aK a0,aK a1,nm ((Fj prog (fun(x:((V3×Rat)×(ard V3)))=>[aK x]) (fun(x:(Int×Int×Int))=>[zP x])) c0)] (.vs [TiZ r]):=by
 refine c7 func287 O ntmps287 (by kernel_rfl) fun w0 H0=>rS<|cX<|cX<|cI<|ak 28 O ?_
 obtain⟨x1,h2,x3,h4,x5,h6,q⟩:=b3 q;refine gE 8 mixed<|dP [2] O (aU (aT O) abM)<|dP [3] O (ae O tJ)<|dP [6,7] O (qQ O h2 (aJ.cons (aT O) aJ.nil))<|dP [2] O (aU (aT O) abM)<|dP [4] O (ae O tJ)<|dP [9,10] O (qQ O h4 (aJ.cons (aT O) aJ.nil))<|dP [8,11] O (oC (C3 h6) O)<|dP [12] O (oA O)<|dN<|dE [5] O (by kernel_rfl)<|cD ?_
 cases q;exact an (r1 O)
def yT{a0 a1 r}(q:qg a0 a1=some r):fF prog 212 [] (.buf 237 17 (lT aK a0)) (.gone) [(Fj prog (fun(x:((V3×Rat)×(ard V3)))=>[aK x]) (fun(x:(Int×Int×Int))=>[zP x])) a1] [(TL aK) r]:=by
 refine uS (N:=9) func212 O ntmps212 (by simp) ai9 O O fun w1 v w0 H0 hk=>?_
 refine lP (sS [0,1] O) ?_;refine rS<|cX<|cP (aA (Arg.nn (f:=aK)))<|ak 9 O ?_
 obtain⟨x1,h2,q⟩:=ab q;refine rS<|cQ<|cG (pT (t:=3) O)<|cP (zd (A:=fun(x:((V3×Rat)×(ard V3))×((V3×Rat)×(ard V3)))=>[aK x.1,aK x.2]) (R:=fun(x:Int)=>[TiZ x]) (fn:=fun x=>kT x.1 x.2 a1) (aJ.cons (aT O) aJ.nil) (fun _ _ h=>xf (D:=DR.strict) h))<|cS (jK (xs:=[]) (ys:=[.tmp 6]) (YX h2) (dZ.same O) O O O aJ.nil (aJ.cons (aT O) aJ.nil) (bU O) O)<|ak 1 O<|rS<|cQ<|cG (ij (t:=0) O)<|cG (jL (s:=8) O O)<|cA<|cF [4] O ?_
 cases q;exact an (Sb hk O (bu.tmp O O bu.nil))
def KL{a0 r}(q:Cz a0=some r):al prog 215 [bg a0] (.vs [bz r.1,aY r.2]):=by
 refine c7 func215 O ntmps215 (by kernel_rfl) fun w0 H0=>rS<|cX<|cT pN<|cB<|ak 6 O ?_
 obtain⟨x1,h2,q⟩:=ab q;refine rS<|cU O fI<|cC (yZ h2) O<|cT iA<|cs O O O fI<|ak 20 O ?_
 obtain⟨x3,h4,q⟩:=ab q;refine rS<|jg 1 O yM O d<|cC (iI h4) O<|cP (bB pN Ln O)<|cT pN<|cs O O O lO<|ak 52 O<|ah<|rS<|jg 0 O jP O g<|cN<|ak 393268 O<|ai<|jj [4,17] O (σ:=((Int×Int×Int)×adx)×((Int×Int×Int)×adx)×Int) (fun s5=>[(2,.own 114 (bz s5.1)),(5,.own 114 (bz s5.2.1)),(18,.val (TiZ s5.2.2))]) q O (fun k6 s5 q=>?_)
 refine rS<|cP (eC (aT O) aI)<|ak 917556 O<|ah<|gc O q (fun A9 q=>?_) fun A9 q=>?_
 ·refine aj<|aw<|ah<|ai ?_
  obtain⟨x8,h9,q⟩:=ab q;refine rS<|cM<|cP (BC (f:=aX) (l:=([x1.1.1,x1.1.2.1,x1.1.2.2]:ard Rat)) Of d (fun _=>O) O (aT O) (aT O) h9)<|cT V<|cA<|cs O O O d<|ak 393460 O ?_
  obtain⟨dz,jv,q⟩:=ab q;refine rS<|jg 0 O nH O m<|cC (Vp jv) O<|cZ<|cE<|cE<|cA<|cA<|ak 394100 O<|ah<|rS<|cM<|cP (jF (aT O))<|cM<|gV O O (ov 8 O on) (fun rW=>oM O)<|gV O O (oo 31 O id on) (fun hg2=>cq (aT O) aI)<|cP (fO (aT O) O jY)<|cM<|gV O O (ov 8 O on) (fun P=>oM O)<|gV O O (oo 35 O id on) (fun wk=>eC (aT O) aI)<|cP (fO (aT O) O jY)<|ak 137439347060 O<|gc O q (fun JT q=>?_) fun JT q=>?_
  ·refine rS<|cP (bB pN Ln O)<|cs O O O lO<|cB<|ak 12 O ?_
   cases q;exact an (fX O O (bu.cell O (sB lO) O (bu.tmp O O bu.nil)))
  ·refine aj (aw ?_);obtain⟨iW,nJ,q⟩:=ab q;refine rK<|cM<|cM<|cK O pD<|cP (ahC (n:=3) O sc (aT O) (py nJ).1 (ahV O nJ))<|cS (M7 O O (aT O) (il.trans (i:=0) O O (il.acY (fun _=>O) nJ) O O) C)<|ak 393268 O (aw ?_)
   obtain⟨kd,S,q⟩:=ab q;exact rK<|cH O S<|cO (oM O)<|ak 393268 O (cm q O)
 ·refine aN (aw ?_);obtain⟨iP,T,q⟩:=ab q;refine gE 7 mixed<|dP [5] O (ae O lO)<|dQ 1 O yM O d<|dP [46] O (oC (iR T) O)<|dP [47] O (jF (aT O))<|dS [2,44] O (ds O O O lO)<|dP [48] O (oA O)<|dN<|dE [2,3] O (by kernel_rfl)<|cD ?_
  cases q;exact an (fX O O (bu.cell O (sB lO) O (bu.tmp O O bu.nil)))
def G0{a0 r}(q:zn a0=some r):al prog 214 [aK a0] (.vs [zP r]):=by
 refine c7 func214 O ntmps214 (by kernel_rfl) fun w0 H0=>rS<|cX<|cT QB<|ak 6 O ?_
 obtain⟨x1,h2,q⟩:=ab q;refine rS<|jg 0 O DY O fI<|cC (KL h2) O<|cZ<|cE<|cE<|cT pN<|cs O O O lO<|cA<|ak 12 O<|rS<|jg 0 O pD O JL<|cs O O O JL<|ak 4 O ?_
 cases q;exact an (q1 O JL)
def KO{a0 r}(q:CA a0=some r):al prog 133 [(TL aK) a0] (.vs [(TL aK) r]):=by
 refine c7 func133 O ntmps133 (by kernel_rfl) fun w0 H0=>rS<|cP (aA (Arg.nn (f:=aK)))<|ak 1 O ?_
 obtain⟨h1,q⟩:=rE q;obtain⟨x2,h3,x4,h5,q⟩:=b2 q;refine rS<|cM<|cP (fL (pO h3) (aJ.cons ((aT O).imp (UM (not_true h1))) aJ.nil))<|cS (jK (s':= .gone) (xs:=[]) (ys:=[.func 214]) (yT h5) dZ.own O O O aJ.nil (aJ.cons (Arg.fn fun _ _ h=>G0 (D:=DR.strict) h) aJ.nil) (bU O) O)<|cA<|ak 4 O ?_
 cases q;exact an (r1 O)
def QJ{a0 r}(q:H9 a0=some r):al prog 134 [(TL ar) a0] (.vs [ar r]):=by
 refine c7 func134 O ntmps134 (by kernel_rfl) fun w0 H0=>rS<|cT bY<|ak 5 O ?_
 obtain⟨x1,h2,q⟩:=ab q;refine rS<|cC (CZ h2) O<|cT bY<|cs O O O g<|ak 13 O<|ah ?_
 obtain⟨x3,h4,q⟩:=ab q;refine rS<|cM<|cC (Fq h4) O<|ak 140 O<|ai ?_
 obtain⟨x9,kG,q⟩:=ab q;refine Ch (σ:=V3) [2,3] (fun s5=>[(2,.own 91 (iv 12 true)),(3,.own 91 (ar s5))]) none q kG O O O (sS [2,3] O) (fun _=>O) (fun G h=>by cases h) (fun _=>O) O (by decide) (fun wr Hr l rc pv k8 x6 s5 UW q=>?_) (fun s5 q=>aw ?_) (fun G h=>by cases h)
 ·
  refine rK<|cT Pz<|cs O O O abL<|ak 52428828 O (Ow (sS [21,2,3,4,24,25] O) O ?_)
  refine ai ?_;obtain⟨iM,qC,iW,nJ,q⟩:=b2 q;exact gD 8 mixed<|dP [3] O (ae O g)<|dP [4] O (iO O Cm O)<|dP [10,4] O (oP 0 O O g)<|dP [4] O (iO O Cm O)<|dP [12,4] O (oP 1 O O g)<|dP [11,13] O (oC (jw qC) O)<|dP [9,14] O (oC (jk nJ) O)<|dS [3,15] O (ds O O O g)<|dN<|dE [2,3,21,24,25] O (by kernel_rfl)<|cD (xE (J6:=none) q (sS [21,24,25,2,3] O))
 ·
  obtain⟨gS,Q,iZ,qi,kR,h21,my,Cf,q⟩:=b4 q;refine gE 6 mixed<|dP [3] O (ae O g)<|dP [] O (oC (sOf Q) O)<|dP [] O (oC (sOf qi) O)<|dP [17,18] O (oC (W9 h21) O)<|dP [16,19] O (oC (gw Cf) O)<|dS [2,20] O (ds O O O g)<|dN<|dE [2] O (by kernel_rfl)<|cD ?_
  cases q;exact an (q1 O g)
def OV{a0 r}(q:FK a0=some r):al prog 66 [(TL bz) a0] (.vs [(TL aW) r.1,TiZ r.2]):=by
 refine c7 func66 O ntmps66 (by kernel_rfl) fun w0 H0=>rS<|cP (aA (Arg.nn (f:=aW)))<|cI<|ak 1 O ?_
 obtain⟨x1,h2,q⟩:=ab q;refine rS<|cM<|cC (rm h2) O<|cZ<|cE<|cE<|cA<|cA<|ak 48 O<|ah<|rS<|cM<|cP (da (aT O) aI)<|ak 32816 O<|gc O q (fun hb3 q=>?_) fun hb3 q=>?_
 ·refine rS<|cM<|cP (aA (Arg.nn (f:=aW)))<|cA<|ak 12 O ?_
  cases q;exact an (fi (US (t:=2) O) (fX O O (bu.tmp O O (bu.tmp O O bu.nil))))
 ·refine aj<|aw<|rS<|cP (ba ar 91 12)<|ak 80 O<|ah ?_
  obtain⟨x4,h5,q⟩:=ab q;refine rS<|cM<|cC (KO h5) O<|cJ rC O<|cN<|ak 1835072 O<|ai<|jj [18,19] O (σ:=(ard V3)×Int) (fun s6=>[(6,.buf 91 12 (lT ar s6.1)),(20,.val (TiZ s6.2))]) q O (fun k7 s6 q=>?_)
  refine rS<|cL O O<|ak 3932224 O<|ah<|gc O q (fun Y q=>?_) fun Y q=>?_
  ·refine aj<|aw<|ah<|ai ?_
   obtain⟨x9,kG,q⟩:=ab q;refine rS<|cP (oX Jl (dI O) O O kG)<|cR O tJ<|cT pM<|cs O O O tJ<|ak 1835328 O ?_
   obtain⟨iM,qC,iW,nJ,q⟩:=b2 q;refine rK<|cQ<|jg 1 O IS O ow<|cC (QJ qC) O<|cP (bS bY D7 O O)<|cS (dp ky Cn (dI O) O O (aT O) nJ (bU O))<|cS (bt O O (bU O) _ (Or.inl O))<|ak 1835072 O (aw ?_)
   obtain⟨kd,S,q⟩:=ab q;exact rK<|cH O S<|cO (oM O)<|ak 1835072 O (cm q O)
  ·refine aN (aw ?_);obtain⟨iP,T,q⟩:=ab q;refine rS<|cQ<|cG (ij (t:=6) O)<|cG (jL (s:=31) O O)<|cC (Fp T) O<|cE<|cE<|cA<|cA<|ak 12 O ?_
   cases q;exact an (r2 O)
def O5{a0 a1 r}(q:FM a0 a1=some r):al prog 20 [(TL bz) a0,cz a1] (.vs [TS r.1,TiZ r.2]):=by
 refine c7 func20 O ntmps20 (by kernel_rfl) fun w0 H0=>rS<|cX<|cP (aA (Arg.s O))<|cI<|ak 9 O<|ah ?_
 obtain⟨x1,h2,x3,h4,x5,h6,q⟩:=b3 q;refine gE 7 mixed<|dP [0] O (oM O)<|dP [14] O (oC (G2 h2) O)<|dP [3] O (ae O kv)<|dP [16] O (oC (jU h4) O)<|dP [15,17] O (bS sJ uW O O)<|dP [18] O (oC (iJ h6) O)<|dP [19] O (oA O)<|dN<|dE [0,3,6] O (by kernel_rfl)<|cD<|rS<|cM<|cP (da (aT O) aI)<|ak 2097225 O<|gc O q (fun A9 q=>?_) fun A9 q=>?_
 ·refine rS<|cM<|cP (aA (Arg.s O))<|cA<|ak 48 O ?_
  cases q;exact an (r2 O)
 ·refine aj (aw ?_);obtain⟨x8,h9,q⟩:=ab q;refine rS<|cU O kv<|cC (o0 h9) O<|cT xK<|cs O O O CG<|ak 129 O ?_
  obtain⟨dz,jv,q⟩:=ab q;refine rS<|cM<|cC (OV jv) O<|cZ<|cE<|cE<|cA<|cA<|ak 896 O<|ah<|rS<|cM<|cP (da (aT O) aI)<|cF [7,8,9,31] O<|gc O q (fun JT q=>?_) fun JT q=>?_
  ·refine rS<|cM<|cP (aA (Arg.s O))<|cA<|ak 48 O ?_
   cases q;exact an (r2 O)
  ·refine aj (aw ?_);obtain⟨iW,nJ,q⟩:=ab q;refine rS<|cC (Lq nJ) O<|cT V<|cs O O O d<|ak 1408 O<|ah<|rS<|cM<|cJ As O<|cN<|ak 120259085440 O<|ai<|jj [7,34,35] O (σ:=Rat×Int) (fun Ek=>[(10,.own 87 (aX Ek.1)),(36,.val (TiZ Ek.2))]) q O (fun Zx Ek q=>?_)
   refine rS<|cL O O<|ak 257698038912 O<|ah<|gc O q (fun JS q=>?_) fun JS q=>?_
   ·refine aj<|aw<|ah<|ai ?_
    obtain⟨iZ,qi,q⟩:=ab q;refine rS<|cP (oX Hs (dI O) O O qi)<|cR O B<|cT jR<|cs O O O B<|ak 120259089536 O ?_
    obtain⟨kR,h21,my,Cf,q⟩:=b2 q;refine gE 7 mixed<|dP [12] O (ae O B)<|dP [40] O (oC (gT h21) O)<|dQ 3 O zI O g<|dP [41,43] O (oC (fg Cf) O)<|dP [] O (gW V)<|dS [13,44] O (ds O O O d)<|dN<|dE [7,10,13,34,35,36] O (by kernel_rfl)<|cD<|ah ?_
    obtain⟨sE,Gv,q⟩:=ab q;refine rS<|cU O d<|cC (ja Gv) O<|cP (eC (aT O) aI)<|ak 140857747448960 O<|uU [7,10,34,35,36] O (α:=Rat) (fun FE=>[(13,.own 87 (aX FE))]) q (fun VR q=>?_) (fun FE q=>?_)
    ·refine gc O q (fun acx q=>?_) fun acx q=>?_
     ·obtain⟨Ax,IM,q⟩:=ab q;exact rK<|cU O d<|cC (FC IM) O<|cs O O O d<|ak 120259093632 O (cm q O)
     ·exact aj (cm q O)
    ·refine aw ?_;obtain⟨vH,Fh,q⟩:=ab q;refine rK<|cU O d<|cU O d<|cC (Dj Fh) O<|cs O O O d<|ak 120259085440 O (aw ?_)
     obtain⟨xd,Gu,q⟩:=ab q;exact rK<|cH O Gu<|cO (oM O)<|ak 120259085440 O (cm q O)
   ·refine aN (aw ?_);obtain⟨sK,Gt,xc,JV,sf,Gs,AF,Li,AE,Pr,q⟩:=b5 q;refine gE 14 mixed<|dP [10] O (ae O d)<|dP [] O (oC (Lq Gt) O)<|dQ 3 O zI O g<|dQ 3 O zI O g<|dP [57,59] O (oC (fg JV) O)<|dP [55,60] O (oC (kh Gs) O)<|dP [54,61] O (oC (Di Li) O)<|dP [62] O (oC (Dc Pr) O)<|dP [63] O (dW O O)<|dP [63] O (dW O O)<|dP [64] O (oA O)<|dP [65] O (oA O)<|dN<|dE [4,5] O (by kernel_rfl)<|cD ?_
    cases q;exact an (r2 O)
def Dd{a0 r}(q:yB a0=some r):al prog 72 [(TL (TL bz)) a0] (.vs [(TL ar) r]):=by
 refine c7 func72 O ntmps72 (by kernel_rfl) fun w0 H0=>rS<|cP (ba ar 91 12)<|ak 1 O<|rS<|cP (ba ar 91 12)<|ak 9 O<|ah<|rS<|cM<|cJ JN O<|cN<|ak 7176 O<|ai<|jj [10,11] O (σ:=(ard V3)×Int) (fun s1=>[(3,.buf 91 12 (lT ar s1.1)),(12,.val (TiZ s1.2))]) q O (fun k2 s1 q=>?_)
 refine rS<|cL O O<|ak 15368 O<|ah<|gc O q (fun hb3 q=>?_) fun hb3 q=>?_
 ·refine aj<|aw<|ah<|ai ?_
  obtain⟨x4,h5,q⟩:=ab q;refine rS<|cP (oX aaS (dI O) O O h5)<|cR O abK<|cA<|ak 7208 O ?_
  obtain⟨x6,h7,q⟩:=ab q;refine rS<|cM<|cC (Cu h7) O<|cZ<|cE<|cE<|cA<|cA<|ak 7240 O<|rS<|cM<|cJ As O<|cN<|ak 14687240 O<|ai<|jj [10,11,12,21,22] O (σ:=(ard V3)×Int) (fun s8=>[(3,.buf 91 12 (lT ar s8.1)),(23,.val (TiZ s8.2))]) q O (fun k9 s8 q=>?_)
  refine rS<|cL O O<|ak 31464456 O<|ah<|gc O q (fun wO q=>?_) fun wO q=>?_
  ·refine aj<|aw<|ah<|ai ?_
   obtain⟨iM,qC,q⟩:=ab q;refine rS<|cP (oX Hs (dI O) O O qC)<|cR O B<|cT jR<|cs O O O B<|ak 14687752 O ?_
   obtain⟨iW,nJ,kd,S,q⟩:=b2 q;refine rK<|cQ<|cU O B<|cC (gT nJ) O<|cP (bS bY D7 O O)<|cS (dp ky Cn (dI O) O O (aT O) S (bU O))<|cS (bt O O (bU O) _ (Or.inl O))<|ak 14687240 O (aw ?_)
   obtain⟨iP,T,q⟩:=ab q;exact rK<|cH O T<|cO (oM O)<|ak 14687240 O (cm q O)
  ·refine aN (aw ?_);obtain⟨ju,Z,q⟩:=ab q;exact rK<|cH O Z<|cO (oM O)<|ak 7176 O (cm q O)
 ·refine aN<|aw<|rS<|cQ<|cG (ij (t:=3) O)<|cG (jL (s:=34) O O)<|cA<|ak 4 O ?_
  cases q;exact an (r1 O)
def O4{a0 a1 r}(q:FL a0 a1=some r):al prog 147 [aR a0,aR a1] (.vs [aY r]):=by
 refine c7 func147 O ntmps147 (by kernel_rfl) fun w0 H0=>rS<|cX<|cX<|cB<|ak 12 O ?_
 obtain⟨x1,h2,q⟩:=ab q;refine rS<|cU O kc<|cU O kc<|cC (j7 h2) O<|cP (df (aT O) aI)<|cA<|cF [4] O ?_
 cases q;exact an (r1 O)
def SN{a0 a1 a2 r}(q:Kr a0 a1 a2=some r):al prog 149 [aR a0,aR a1,aR a2] (.vs [aX r]):=by
 refine c7 func149 O ntmps149 (by kernel_rfl) fun w0 H0=>rS<|cX<|cX<|cX<|cT V<|ak 120 O ?_
 obtain⟨x1,h2,x3,h4,x5,h6,x7,h8,x9,kG,iM,qC,q⟩:=b6 q;obtain⟨iW,nJ,q⟩:=ab q;refine gE 24 mixed<|dP [4] O (iO O mO O)<|dP [7,4] O (oP 0 O O d)<|dP [3] O (iO O mO O)<|dP [9,3] O (oP 0 O O d)<|dP [8,10] O (oC (vL h2) O)<|dP [5] O (iO O mO O)<|dP [12,5] O (oP 1 O O d)<|dP [3] O (iO O mO O)<|dP [14,3] O (oP 1 O O d)<|dP [13,15] O (oC (vL h4) O)<|dP [11,16] O (oC (kh h6) O)<|dP [4] O (iO O mO O)<|dP [18,4] O (oP 1 O O d)<|dP [3] O (iO O mO O)<|dP [20,3] O (oP 1 O O d)<|dP [19,21] O (oC (vL h8) O)<|dP [5] O (iO O mO O)<|dP [23,5] O (oP 0 O O d)<|dP [3] O (iO O mO O)<|dP [25,3] O (oP 0 O O d)<|dP [24,26] O (oC (vL kG) O)<|dP [22,27] O (oC (kh qC) O)<|dP [17,28] O (oC (vL nJ) O)<|dS [6,29] O (ds O O O d)<|dN<|dE [6] O (by kernel_rfl)<|cD ?_
 cases q;exact an (q1 O d)
end
end Trn
