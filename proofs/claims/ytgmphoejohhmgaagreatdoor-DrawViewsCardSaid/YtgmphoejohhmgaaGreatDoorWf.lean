/-
  Part of the proof of DrawViews.
-/
import Derived.Test.YtgmphoejohhmgaaGreatDoorWe
set_option maxRecDepth 100000
set_option maxHeartbeats 20000000
set_option linter.all false
open Go Go.RowKit Go.Proofs Go.Proofs.Tryz
namespace Trn
section
variable[D:DR]
def F5{a0 a1 r}(q:yx a0 a1=some r):al prog 121 [(TP dH) a0,TiZ a1] (.vs [(TL bT) r]):=by
 refine c7 func121 O ntmps121 (by kernel_rfl) fun w0 H0=>rS<|cP (ba bT 128 24)<|ak 3 O<|rS<|cP (ba bT 128 24)<|ak 35 O<|ah ?_
 obtain⟨x1,h2,q⟩:=ab q;refine rS<|cM<|cP (sX (aT O))<|cP (eG (aT O) O (aP.agg (i:=1) O O) IT)<|cR O RM<|cM<|cP (oX aaU (dI O) O O h2)<|cR O ow<|cJ ky O<|cN<|ak 3670051 O<|ai<|jj [0,1,19,20] O (σ:=(ard (V3×V3))×Int) (fun s3=>[(5,.buf 128 24 (lT bT s3.1)),(21,.val (TiZ s3.2))]) q O (fun k4 s3 q=>?_)
 refine rS<|cL O O<|ak 7864355 O<|ah<|gc O q (fun CN q=>?_) fun CN q=>?_
 ·refine aj<|aw<|ah<|ai ?_
  obtain⟨x6,h7,q⟩:=ab q;refine rS<|cM<|cP (oX uw (dI O) O O h7)<|cR O g<|cT bY<|cA<|cs O O O g<|ak 3670243 O ?_
  obtain⟨x8,h9,dz,jv,fp,kU,q⟩:=b3 q;refine rS<|cM<|cP (sX (aT O))<|cP (eG (aT O) O (aP.agg (i:=1) O O) IT)<|cR O RM<|cM<|cP (oX aaU (dI O) O O h9)<|cR O ow<|cM<|cH O jv<|cP (sv uw (dI O) (aT O) (Lo.some (aT O)) Lo.none kU)<|cJ ky O<|cN<|ak 240521838755 O<|ai<|jj [0,1,7,19,20,21,35,36] O (σ:=(ard (V3×V3))×Int) (fun Dr=>[(5,.buf 128 24 (lT bT Dr.1)),(37,.val (TiZ Dr.2))]) q O (fun k15 Dr q=>?_)
  refine rS<|cL O O<|ak 515399745699 O<|ah<|gc O q (fun Gr q=>?_) fun Gr q=>?_
  ·refine aj<|aw<|ah<|uU [0,1,7,19,20,21,35,36,37] O (α:=(ard (V3×V3))) (fun s17=>[(5,.buf 128 24 (lT bT s17))]) q (fun k18 q=>?_) (fun s17 q=>?_)
   ·refine ai ?_;obtain⟨ju,Z,q⟩:=ab q;refine rS<|cP (oX uw (dI O) O O Z)<|cR O g<|cT bY<|cs O O O g<|ak 240521839267 O<|rS<|cI<|ak 240521840291 O<|ah ?_
    obtain⟨kQ,wb,q⟩:=ab q;refine rS<|cM<|cP (sX (aT O))<|cP (eG (aT O) O (aP.agg (i:=0) O O) D1)<|cR O NM<|cM<|cP (oX aaV (dI O) O O wb)<|cR O Gj<|cJ mq O<|cN<|ak 985402940327587 O<|ai<|jj [0,1,5,7,9,19,20,21,35,36,37,47,48] O (σ:=Int×Int) (fun Vr=>[(10,.val (TiZ Vr.1)),(49,.val (TiZ Vr.2))]) q O (fun k24 Vr q=>?_)
    refine rS<|cL O O<|ak 2111302847170211 O<|ah<|gc O q (fun R2 q=>?_) fun R2 q=>?_
    ·refine aj<|aw<|ah<|uU [0,1,5,7,9,19,20,21,35,36,37,47,48,49] O (α:=Int) (fun FE=>[(10,.val (TiZ FE))]) q (fun VR q=>?_) (fun FE q=>?_)
     ·refine ai ?_;obtain⟨oY,Fi,q⟩:=ab q;refine rS<|cP (oX uv (dI O) O O Fi)<|cR O fI<|cT iA<|cs O O O fI<|ak 985402940331683 O ?_
      obtain⟨qE,CO,qf,JW,q⟩:=b2 q;obtain⟨yX,N6,q⟩:=aH q;obtain⟨uj,R5,q⟩:=aH q;refine rS<|cU O fI<|cU O g<|cC (gF CO) O<|cC (ja JW) O<|cP (df (aT O) aI)<|cM<|gV O O (ov 12 O on) (fun rW=>ae O fI)<|gV O O (ov 9 O on) (fun hg2=>ae O g)<|gV O O (oo 59 O id (oo 60 O id on)) (fun P=>oC (gF (N6 P)) O)<|gV O O (oo 61 O id on) (fun wk=>oC (ja (R5 wk)) O)<|gV O O (oo 62 O id on) (fun Az=>df (aT O) aI)<|cP (dh (aT O) O je)<|ak 18447729476649879203 O<|gc O q (fun acu q=>?_) fun acu q=>?_
      ·obtain⟨sf,Gs,q⟩:=ab q;exact rK<|cM<|cH O Gs<|cO (oA O)<|ak 985402940327587 O (cm q O)
      ·exact aj (cm q O)
     ·refine aw ?_;obtain⟨AF,Li,q⟩:=ab q;exact rK<|cH O Li<|cO (oM O)<|ak 985402940327587 O (cm q O)
    ·refine aN<|aw<|rS<|cM<|cP (jG (aT O) aI)<|ak 590295810599227490979 O<|gc O q (fun aoR q=>?_) fun aoR q=>?_
     ·obtain⟨Sn,Pq,q⟩:=ab q;exact rK<|cQ<|cU O g<|cU O g<|cP (bB Mq Q0 O)<|cP (bS AD adl O O)<|cS (dp IG adr (dI O) O O (aT O) Pq (bU O))<|cS (bt O O (bU O) _ (Or.inl O))<|ak 240521838755 O (cm q O)
     ·exact aj (cm q O)
   ·refine aw ?_;obtain⟨PF,XV,q⟩:=ab q;exact rK<|cH O XV<|cO (oM O)<|ak 240521838755 O (cm q O)
  ·refine aN (aw ?_);obtain⟨Eh,h49,q⟩:=ab q;exact rK<|cH O h49<|cO (oM O)<|ak 3670051 O (cm q O)
 ·refine aN<|aw<|rS<|cQ<|cG (ij (t:=5) O)<|cG (jL (s:=78) O O)<|cA<|cF [4] O ?_
  cases q;exact an (r1 O)
def anf{x y:Int}{r:Int}(hm:amp x y=some r):al prog 222 [mP x,mP y] (.vs [mP r]):=by
 obtain⟨hb,rfl⟩:=iL hm;obtain⟨hb,h3⟩:=eK hb;obtain⟨h1,h2⟩:=eK hb;rw[gY,kE] at h3;exact Z3 (by kernel_rfl) fun r s hr hs=>by obtain⟨q,e,hq⟩:=Rw hr hs h1 h2 h3;exact⟨_,zW e,Tu hq⟩
def yZ{a0 r}(q:te a0=some r):al prog 271 [bg a0] (.vs [bg r]):=by
 refine c7 func271 O ntmps271 (by kernel_rfl) fun w0 H0=>rS<|cX<|cT iA<|ak 6 O ?_
 obtain⟨x1,h2,q⟩:=ab q;refine rS<|cC (sOf h2) O<|cT gv<|cs O O O m<|ak 14 O<|ah<|rS<|jg 0 O jP O g<|cN<|ak 12302 O<|ai<|jj [1,2,12] O (σ:=Int×Int) (fun s3=>[(3,.own 85 (mP s3.1)),(13,.val (TiZ s3.2))]) q O (fun k4 s3 q=>?_)
 refine rS<|cP (eC (aT O) aI)<|ak 28686 O<|ah<|gc O q (fun CN q=>?_) fun CN q=>?_
 ·refine aj<|aw<|ah<|ai ?_
  obtain⟨x6,h7,q⟩:=ab q;refine rS<|cP (BC (f:=aX) (l:=([a0.1.1,a0.1.2.1,a0.1.2.2]:ard Rat)) Of d (fun _=>O) O (aT O) (aT O) h7)<|cT V<|cs O O O d<|ak 12334 O ?_
  obtain⟨x8,h9,dz,jv,fp,kU,q⟩:=b3 q;refine gD 10 mixed<|dP [3] O (ae O m)<|dP [3] O (ae O m)<|dQ 1 O mR O m<|dP [17,19] O (oC (aeC h9) O)<|dP [16,20] O (oC (anf jv) O)<|dQ 1 O mR O m<|dP [21,23] O (oC (Tf kU) O)<|dS [3,24] O (ds O O O m)<|dN<|dE [1,2,3,12,13] O (by kernel_rfl)<|cD (aw ?_)
  obtain⟨gp,mu,q⟩:=ab q;exact rK<|cH O mu<|cO (oM O)<|ak 12302 O (cm q O)
 ·refine aN (aw ?_);obtain⟨gS,Q,q⟩:=ab q;refine rS<|cU O m<|cC (Ni Q) O<|cT V<|cs O O O d<|ak 70 O ?_
  obtain⟨iZ,qi,q⟩:=ab q;refine rS<|cC (sOf qi) O<|cT gv<|cs O O O m<|ak 198 O<|ah<|rS<|jg 0 O jP O g<|cN<|ak 3221225670 O<|ai<|jj [1,2,6,30] O (σ:=Int×Int) (fun s20=>[(7,.own 85 (mP s20.1)),(31,.val (TiZ s20.2))]) q O (fun k21 s20 q=>?_)
  refine rS<|cP (eC (aT O) aI)<|ak 7516192966 O<|ah<|gc O q (fun R3 q=>?_) fun R3 q=>?_
  ·refine aj<|aw<|ah<|ai ?_
   obtain⟨kP,wP,q⟩:=ab q;refine rS<|cP (BC (f:=aX) (l:=([a0.1.1,a0.1.2.1,a0.1.2.2]:ard Rat)) Of d (fun _=>O) O (aT O) (aT O) wP)<|cT V<|cs O O O d<|ak 3221226182 O ?_
   obtain⟨nZ,Ba,oN,CP,Ax,IM,q⟩:=b3 q;refine gD 8 mixed<|dP [7] O (ae O m)<|dP [9] O (ae O d)<|dP [6] O (ae O d)<|dP [35,36] O (oC (kh Ba) O)<|dP [37] O (BD acS m O (aT O) (aP.agg (i:=0) O O))<|dP [38] O (oC (akh CP) O)<|dP [34,39] O (oC (aeC IM) O)<|dS [7,40] O (ds O O O m)<|dN<|dE [1,2,6,7,30,31] O (by kernel_rfl)<|cD (aw ?_)
   obtain⟨vH,Fh,q⟩:=ab q;exact rK<|cH O Fh<|cO (oM O)<|ak 3221225670 O (cm q O)
  ·refine aN (aw ?_);obtain⟨xd,Gu,sK,Gt,q⟩:=b2 q;refine gE 5 mixed<|dP [6] O (ae O d)<|dP [7] O (ae O m)<|dP [43] O (oC (Ni Gu) O)<|dP [42,44] O (oC (Di Gt) O)<|dS [6,45] O (ds O O O d)<|dN<|dE [1,2,6] O (by kernel_rfl)<|cD ?_
   obtain⟨xc,JV,sf,Gs,q⟩:=b2 q;refine gE 10 mixed<|dQ 0 O jP O g<|dP [6] O (ae O d)<|dP [47,48] O (oC (gw JV) O)<|dQ 1 O yM O d<|dP [6] O (ae O d)<|dP [51,52] O (oC (kh Gs) O)<|dP [49,53] O (bB CW Ho O)<|dS [2,54] O (ds O O O fI)<|dN<|dE [2] O (by kernel_rfl)<|cD ?_
   cases q;exact an (q1 O fI)
def um{a0 r}(q:p9 a0=some r):al prog 202 [ar a0] (.vs [ar r]):=by
 refine c7 func202 O ntmps202 (by kernel_rfl) fun w0 H0=>rS<|cX<|cT bY<|ak 6 O ?_
 obtain⟨x1,h2,x3,h4,q⟩:=b2 q;refine gE 6 mixed<|dP [1] O (ae O g)<|dP [] O (oC (Lq h2) O)<|dP [3,4] O (bB CW Ho O)<|dP [5] O (oC (yZ h4) O)<|dP [6] O (BD ZX g O (aT O) (aP.agg (i:=0) O O))<|dS [2,7] O (ds O O O g)<|dN<|dE [2] O (by kernel_rfl)<|cD ?_
 cases q;exact an (q1 O g)
def qJ{a0 r}(q:nT a0=some r):al prog 94 [ar a0] (.vs [ar r]):=by
 refine c7 func94 O ntmps94 (by kernel_rfl) fun w0 H0=>rS<|cX<|cT bY<|ak 6 O ?_
 obtain⟨x1,h2,x3,h4,x5,h6,q⟩:=b3 q;refine gE 11 mixed<|dP [1] O (iO O M O)<|dP [3,1] O (oP 0 O O d)<|dP [4] O (oC (FC h2) O)<|dP [1] O (iO O M O)<|dP [6,1] O (oP 1 O O d)<|dP [7] O (oC (FC h4) O)<|dP [1] O (iO O M O)<|dP [9,1] O (oP 2 O O d)<|dP [10] O (oC (FC h6) O)<|dP [5,8,11] O (bA rl M O O)<|dS [2,12] O (ds O O O g)<|dN<|dE [2] O (by kernel_rfl)<|cD ?_
 cases q;exact an (q1 O g)
def KW{a0 r}(q:CD a0=some r):al prog 201 [ar a0] (.vs [ar r]):=by
 refine c7 func201 O ntmps201 (by kernel_rfl) fun w0 H0=>rS<|cX<|cT bY<|ak 6 O ?_
 obtain⟨x1,h2,q⟩:=ab q;refine rS<|cU O g<|cC (um h2) O<|cs O O O g<|ak 6 O<|ah ?_
 obtain⟨x3,h4,x5,h6,q⟩:=b2 q;refine gE 4 mixed<|dP [1] O (ae O g)<|dP [] O (oC (CZ h4) O)<|dP [5,6] O (oC (l8 h6) O)<|dP [7] O (eC (aT O) aI)<|dN<|dE [1,2,8] O (by kernel_rfl)<|cD<|gc O q (fun A9 q=>?_) fun A9 q=>?_
 ·obtain⟨x8,h9,q⟩:=ab q;refine rS<|cU O g<|cC (qJ h9) O<|cs O O O g<|ak 4 O ?_
  cases q;exact an (q1 O g)
 ·refine aj<|aw<|rS<|cU O g<|cs O O O g<|ak 4 O ?_
  cases q;exact an (q1 O g)
def Fy{a0 r}(q:Al a0=some r):al prog 123 [bT a0] (.vs [mx r]):=by
 refine c7 func123 O ntmps123 (by kernel_rfl) fun w0 H0=>rS<|cX<|cT Eg<|ak 6 O ?_
 obtain⟨x1,h2,x3,h4,q⟩:=b2 q;refine rS<|jg 1 O tQ O g<|jg 0 O mv O g<|cC (iB h2) O<|cC (KW h4) O<|cT bY<|cs O O O g<|ak 14 O ?_
 obtain⟨x5,h6,x7,h8,x9,kG,q⟩:=b3 q;refine gE 12 mixed<|dP [3] O (ae O g)<|dQ 0 O mv O g<|dP [3] O (ae O g)<|dQ 0 O mv O g<|dP [3] O (ae O g)<|dP [15,16] O (oC (l9 h6) O)<|dP [13,17] O (oC (gw h8) O)<|dP [12,18] O (oC (iB kG) O)<|dP [10,19] O (bB aaz aen O)<|dS [2,20] O (ds O O O JJ)<|dN<|dE [2] O (by kernel_rfl)<|cD ?_
 cases q;exact an (q1 O JJ)
def Bl{a0 r}(q:yA a0=some r):al prog 124 [ar a0] (.vs [aW r]):=by
 refine c7 func124 O ntmps124 (by kernel_rfl) fun w0 H0=>rS<|cX<|cT jR<|ak 6 O ?_
 obtain⟨x1,h2,q⟩:=ab q;refine rS<|cU O g<|cC (lC h2) O<|cs O O O B<|ak 4 O ?_
 cases q;exact an (q1 O B)
def KX{c0:Rat}{c1:Rat}{c2:ard Rat}{L:ard (Rat×Rat)}(ho:AP c0 c1 c2=some L):yR prog 192 [nm (aX c0),nm (aX c1),nm (TL aX c2)] (fun(x:Rat×Rat)=>[aX x.1,aX x.2]) L:=by
 refine Cc (N:=55) func192 O ntmps192 (by simp) ajb fun{σ ρ} Bd K u r q l J Jx w H0 I hJ hI hy=>?_
 replace q:=Na ho Bd K u q;unfold wE at q;refine rS<|cR O d<|cR O d<|cP (sY (s':= .buf 87 4 (lT aX ([c0,c1]:ard Rat))) (Wz V Av O O O (iy.cons (i:=0) (aT O) O O (iy.cons (i:=1) (aT O) O O iy.nil)) O) O)<|cS (bt O O (bU O) _ (Or.inl O))<|cF [0,1,2,3,5,55] O ?_
 refine ah<|rS<|cR O ahO<|cJ mr O<|cN<|ak 36028797018992679 O ?_
 refine ai<|IQ (τ:=σ×ard Rat×Int) (J:=J) (fun s1=>s1.1) (fun s1=>[(0,.val (wR l)),(1,.val (nm (aX c0))),(2,.val (nm (aX c1))),(5,.buf 87 4 (lT aX s1.2.1)),(12,.val (TL aX c2)),(13,.val (TiZ (c2.length:Int))),(14,.val (TiZ s1.2.2))]) q hJ (sS [55,0,1,2,5,12,13,14] O) (fun k2 s1 I q hJ=>?_)
 refine rS<|cL O O<|ak 36028797019025447 O ?_
 refine ah<|gc O q (fun hb3 q=>?_) fun hb3 q=>?_
 ·refine aj<|aw<|ah<|afP (α:=σ×ard Rat) (J:=J) (fun s4=>s4.1) (fun s4=>[(0,.val (wR l)),(1,.val (nm (aX c0))),(2,.val (nm (aX c1))),(5,.buf 87 4 (lT aX s4.2)),(12,.val (TL aX c2)),(13,.val (TiZ (c2.length:Int))),(14,.val (TiZ s1.2.2))]) q (fun k5 q=>?_) (fun s4 I q hJ=>?_)
  ·refine ai ?_;obtain⟨x6,h7,q⟩:=ab q;refine rS<|cP (oX Dm (dI O) O O h7)<|cR O d<|cT V<|cs O O O d<|ak 36028797018992807 O ?_
   obtain⟨x8,h9,q⟩:=ab q;obtain⟨dz,jv,q⟩:=aH q;refine rS<|cU O d<|cR O d<|cC (qN h9) O<|cP (cq (aT O) aI)<|cM<|gV O O (ov 7 O on) (fun rW=>ae O d)<|gV O O (ov 2 O on) (fun hg2=>aU (aT O) d)<|gV O O (oo 23 O id (oo 24 O id on)) (fun P=>oC (qN (jv P)) O)<|gV O O (oo 25 O id on) (fun wk=>eC (aT O) aI)<|cP (dh (aT O) O je)<|ak 36028797153210535 O ?_
   refine gc O q (fun JT q=>?_) fun JT q=>?_
   ·obtain⟨iW,nJ,q⟩:=ab q;exact rK<|cQ<|cU O d<|cP (bS V Av O O)<|cS (dp mr Aw (dI O) O O (aT O) nJ (bU O))<|cS (bt O O (bU O) _ (Or.inl O))<|ak 36028797018992679 O (GC q hJ (sS [55,0,1,2,5,12,13,14] O))
   ·exact aj (GC q hJ (sS [55,0,1,2,5,12,13,14] O))
  ·refine aw ?_;obtain⟨kd,S,q⟩:=ab q;exact rK<|cH O S<|cO (oM O)<|ak 36028797018992679 O (GC q hJ (sS [55,0,1,2,5,12,13,14] O))
 ·refine aN (aw ?_);obtain⟨iP,T,q⟩:=ab q;refine rS<|cQ<|cS (jK (xs:=[]) (ys:=[.func 80]) (Td T) (dZ.same O) O O O aJ.nil (aJ.cons (Arg.fn fun _ _ h=>qN (D:=DR.strict) h) aJ.nil) (bU O) O)<|cF [0,5,55] O ?_
  obtain⟨ju,Z,q⟩:=ab q;refine rS<|cQ<|cS (Jk (Kk Z) O O (aJ.cons (Arg.fn fun _ _ h=>Vg (D:=DR.strict) h) aJ.nil) (bU O))<|cO (oA O)<|cF [0,5,55] O ?_
  refine rS<|cI<|cF [0,5,8,55] O ?_
  refine ai<|IQ (τ:=σ×Int) (J:=J) (fun xl=>xl.1) (fun xl=>[(0,.val (wR l)),(5,.val (TL aX ju)),(8,.val (TiZ xl.2))]) q hJ (sS [55,0,5,8] O) (fun Sq xl I q hJ=>?_)
  refine ah<|rS<|cM<|cM<|cJ mr O<|cL O O<|cF [0,5,8,40,55] O ?_
  refine gc O q (fun N2 q=>?_) fun N2 q=>?_
  ·refine aj<|aw<|ah<|ai ?_
   obtain⟨sE,Gv,yY,JX,oY,Fi,q⟩:=b3 q;refine ah<|Uo (k:=10) O O hy q hJ [[(43,[])],[(44,[])],[(45,[])],[(46,[])],[(47,[])],[(48,[])],[(49,[])],[(50,[])],[(51,[])],[(52,[])]] [] [[],[],[],[2],[1,2,3],[1,2,3,4],[],[],[6,7],[6,7,8],[0,1,2,3,4,5,6,7,8,9],[0,1,2,3,4,5,6,7,8,9,10]] [[0],[5],[8],[45],[44,46],[47],[5],[8],[49,50],[51]] [true,true,true,true,true,true,true,true,true,true] mixed (by kernel_rfl) O (cd.cons (sS [0] O) (oM O) O O (bU O) (cd.cons (sS [5] O) (oM O) O O (bU O) (cd.cons (sS [8] O) (oM O) O O (bU O) (cd.cons (sS [45] O) (bn (aT O) aI Gv) O O (bU O) (cd.cons (sS [44,46] O) (kS Dm (dI O) (aT O) (aT O) JX) O O (bU O) (cd.cons (sS [47] O) (aU (aT O) d) O O (bU O) (cd.cons (sS [5] O) (oM O) O O (bU O) (cd.cons (sS [8] O) (oM O) O O (bU O) (cd.cons (sS [49,50] O) (kS Dm (dI O) (aT O) (aT O) Fi) O O (bU O) (cd.cons (sS [51] O) (aU (aT O) d) O O (bU O) (cd.nil))))))))))) O O (sS [0,5,8,43,48,52,55] O) O O (aJ.cons (aT O) (aJ.cons (aT O) aJ.nil)) O (sS [0,5,8] O) O (bU O) (bU O) (fun u I q hJ=>aw ?_) (fun I hJ=>aw ?_)
   rotate_left
   ·refine rY O (fun _=>an (Ml O O O hJ)) (fun h=>by cases h)
   ·
    refine rY O (fun h=>by cases h) (fun _=>?_);refine aj (aw ?_);obtain⟨qE,CO,q⟩:=ab q;exact rK<|cM<|cH O CO<|cO (oA O)<|cF [0,5,8,55] O (GC q hJ (sS [55,0,5,8] O))
  ·exact aN (Sc O O O q hJ)
def zZ{a0 a1 a2 r}(q:re a0 a1 a2=some r):al prog 113 [aX a0,aX a1,(TL aX) a2] (.vs [(Sl prog (fun(x:Rat×Rat)=>[aX x.1,aX x.2])) r]):=by
 unfold re at q;refine c7 func113 O ntmps113 (by kernel_rfl) fun w0 H0=>rS<|cX<|cX<|cX<|cP (aA (Arg.c O))<|ak 56 O<|rS<|cG (pT (t:=3) O)<|cG (pT (t:=4) O)<|cG (pT (t:=5) O)<|cP (Bz (o:=AP a0 a1 a2) (aJ.cons (aT O) (aJ.cons (aT O) (aJ.cons (aT O) aJ.nil))) (fun _ h=>KX h))<|cA<|cF [6] O ?_
 cases q;exact an (r1 O)
def z6{a0 a1 r}(q:vv a0 a1=some r):al prog 116 [aX a0,aX a1] (.vs [aX r]):=by
 refine c7 func116 O ntmps116 (by kernel_rfl) fun w0 H0=>rS<|cX<|cX<|cT V<|ak 28 O ?_
 obtain⟨x1,h2,x3,h4,x5,h6,q⟩:=b3 q;refine rS<|cU O d<|cU O d<|cC (Dj h2) O<|cC (Lq h4) O<|cC (Di h6) O<|cs O O O d<|cF [4] O ?_
 cases q;exact an (q1 O d)
def ke{a0 a1 r}(q:jt a0 a1=some r):al prog 115 [bT a0,aX a1] (.vs [ar r]):=by
 refine c7 func115 O ntmps115 (by kernel_rfl) fun w0 H0=>rS<|cX<|cX<|cT bY<|ak 28 O ?_
 obtain⟨x1,h2,x3,h4,x5,h6,q⟩:=b3 q;refine gE 11 mixed<|dQ 0 O mv O g<|dQ 1 O tQ O g<|dQ 0 O mv O g<|dP [8,10] O (oC (iB h2) O)<|dP [3] O (ae O d)<|dP [11,12] O (oC (gw h4) O)<|dP [6,13] O (oC (jk h6) O)<|dS [4,14] O (ds O O O g)<|dN<|dE [4] O (by kernel_rfl)<|cD ?_
 cases q;exact an (q1 O g)
def wW{a0 a1 a2 r}(q:qt a0 a1 a2=some r):al prog 125 [(TP dH) a0,ar a1,ar a2] (.vs [TiZ r]):=by
 refine c7 func125 O ntmps125 (by kernel_rfl) fun w0 H0=>?_
 refine rS<|cX<|cX<|cI<|ak 49 O ?_
 refine afN O ?_;refine rS<|cP (Gd (K:=24) (E:=3) (Eb:=0) (sz:=0) (α:=adx×adx×adx) (β:=Int) aW (fun v=> .val (TiZ v)))<|cS (bt O O (bU O) _ (Or.inl O))<|ak 177 O ?_
 refine rS<|cB<|ak 433 O ?_
 refine ah<|afO (aw ?_)
 refine ah<|rS<|cM<|cP (sX (aT O))<|cP (eG (aT O) O (aP.agg (i:=0) O O) D1)<|cR O NM<|cJ RS O<|cN<|ak 469762480 O ?_
 refine ai<|jj [4,5,26,27] O (σ:=(ard (ate×Int))×Bool×Int) (fun s1=>[(7,.nK 24 3 0 0 (mM aW (fun v=> .val (TiZ v)) s1.1)),(8,.val (aY s1.2.1)),(28,.val (TiZ s1.2.2))]) q O (fun k2 s1 q=>?_)
 refine rS<|cL O O<|ak 1006633392 O ?_
 refine ah<|gc O q (fun hb3 q=>?_) fun hb3 q=>?_
 ·refine aj<|aw<|ah<|uU [4,5,26,27,28] O (α:=(ard (ate×Int))×Bool) (fun s4=>[(7,.nK 24 3 0 0 (mM aW (fun v=> .val (TiZ v)) s4.1)),(8,.val (aY s4.2))]) q (fun k5 q=>?_) (fun s4 q=>?_)
  ·refine ai ?_;obtain⟨x6,h7,q⟩:=ab q;refine rS<|cP (oX aaV (dI O) O O h7)<|cR O Gj<|cA<|ak 469763504 O ?_
   refine rS<|cP (ba bg 212 16)<|ak 469765552 O ?_
   refine ah<|rS<|cM<|cJ mq O<|cN<|ak 30534535600 O ?_
   refine ai<|jj [4,5,7,8,26,27,28,32,33] O (σ:=(ard (V3×Rat))×Int) (fun s8=>[(11,.buf 212 16 (lT bg s8.1)),(34,.val (TiZ s8.2))]) q O (fun k9 s8 q=>?_)
   refine rS<|cL O O<|ak 64894273968 O ?_
   refine ah<|gc O q (fun wO q=>?_) fun wO q=>?_
   ·refine aj<|aw<|ah<|uU [4,5,7,8,26,27,28,32,33,34] O (α:=(ard (V3×Rat))) (fun Jp=>[(11,.buf 212 16 (lT bg Jp))]) q (fun Md q=>?_) (fun Jp q=>?_)
    ·refine ai ?_;obtain⟨iW,nJ,q⟩:=ab q;refine rS<|cP (oX uv (dI O) O O nJ)<|cR O fI<|cT iA<|cs O O O fI<|ak 30534543792 O ?_
     obtain⟨kd,S,iP,T,q⟩:=b2 q;refine rS<|cU O fI<|cU O g<|cC (gF S) O<|cC (ja T) O<|ak 2229557799344 O ?_
     refine ai<|rS<|cP (df (aT O) aI)<|cA<|ak 6627604310448 O ?_
     refine gc O q (fun acz q=>?_) fun acz q=>?_
     ·exact aN (cm q O)
     ·refine rS<|cP (df (aT O) aI)<|cA<|ak 17622720588208 O ?_
      refine gc O q (fun Gq q=>?_) fun Gq q=>?_
      ·obtain⟨kQ,wb,q⟩:=ab q;exact rK<|cQ<|cU O fI<|cP (bS iA JZ O O)<|cS (dp mq J4 (dI O) O O (aT O) wb (bU O))<|cS (bt O O (bU O) _ (Or.inl O))<|ak 30534535600 O (cm q O)
      ·exact aj (cm q O)
    ·refine aw ?_;obtain⟨kP,wP,q⟩:=ab q;exact rK<|cH O wP<|cO (oM O)<|ak 30534535600 O (cm q O)
   ·refine aN<|aw<|rS<|cO (aA aB)<|ak 469764528 O ?_
    refine ah<|rS<|cQ<|cP (mU mq O O)<|cP (df (aT O) aI)<|ak 9007199724505520 O ?_
    refine gc O q (fun R2 q=>?_) fun R2 q=>?_
    ·refine rS<|cI<|cF [6] O ?_
     cases q;exact an (r1 O)
    ·refine aj (aw ?_);obtain⟨yY,JX,oY,Fi,qE,CO,qf,JW,yX,N6,uj,R5,q⟩:=b6 q;obtain⟨Fm,Um,q⟩:=ab q;refine gE 17 mixed<|dP [5] O (ae O g)<|dP [11] O (eI)<|dP [55,11] O (dK uv O O aI JX)<|dP [56,11] O (qP O jP)<|dP [57,11] O (ze (f:=bg) (fun _=>O) O O (bF Fi) O (aP.agg (i:=0) O O) g)<|dP [54,58] O (oC (jw CO) O)<|dP [5] O (ae O g)<|dP [11] O (eI)<|dP [61,11] O (dK uv O O aI JW)<|dP [62,11] O (qP O jP)<|dP [63,11] O (ze (f:=bg) (fun _=>O) O O (bF N6) O (aP.agg (i:=0) O O) g)<|dP [60,64] O (oC (jw R5) O)<|dP [65] O (oC (qJ Um) O)<|dP [] O (gW bY)<|dP [] O (gW bY)<|dS [14,59] O (ds O O O g)<|dS [15,66] O (ds O O O g)<|dN<|dE [4,5,7,8,11,14,15,26,27,28] O (by kernel_rfl)<|cD ?_
     refine ah ?_;obtain⟨WN,h41,q⟩:=ab q;refine rS<|cQ<|cG (ij (t:=11) O)<|cG (jL (s:=67) O O)<|cP (sv uv (dI O) (aT O) (Lo.some aI) Lo.none h41)<|cJ mq O<|cN<|ak 2066035336255939592624 O ?_
     refine ai<|jj [4,5,7,8,26,27,28,68,69] O (σ:=V3×V3×Int) (fun E8=>[(14,.own 91 (ar E8.1)),(15,.own 91 (ar E8.2.1)),(70,.val (TiZ E8.2.2))]) q O (fun k43 E8 q=>?_)
     refine rS<|cL O O<|ak 4427218577690762199472 O ?_
     refine ah<|gc O q (fun aio q=>?_) fun aio q=>?_
     ·refine aj<|aw<|ah<|uU [4,5,7,8,26,27,28,68,69,70] O (α:=V3×V3) (fun qG=>[(14,.own 91 (ar qG.1)),(15,.own 91 (ar qG.2))]) q (fun Zw q=>?_) (fun qG q=>?_)
      ·refine ai ?_;obtain⟨Lk,Sy,q⟩:=ab q;refine rS<|cP (oX uv (dI O) O O Sy)<|cR O fI<|cT iA<|cs O O O fI<|ak 2066035336255939723696 O ?_
       obtain⟨KH,h50,q⟩:=ab q;refine rS<|cU O g<|jg 0 O jP O g<|cC (jw h50) O<|cT bY<|cs O O O g<|ak 2066035336255939985840 O ?_
       obtain⟨J7,Ul,FX,Uk,q⟩:=b2 q;refine rS<|jg 0 O jP O g<|cU O g<|cC (fg Ul) O<|cC (ja Uk) O<|cP (cq (aT O) aI)<|ak 9673472592253289337504176 O ?_
       refine gc O q (fun aoM q=>?_) fun aoM q=>?_
       ·exact rK<|cU O g<|cs O O O g<|ak 2066035336255939592624 O (cm q O)
       ·obtain⟨SB,h57,q⟩:=ab q;exact rK<|cU O g<|cC (qJ h57) O<|cs O O O g<|ak 2066035336255939592624 O (cm q O)
      ·refine aw ?_;obtain⟨SA,h59,q⟩:=ab q;exact rK<|cH O h59<|cO (oM O)<|ak 2066035336255939592624 O (cm q O)
     ·refine aN (aw ?_);obtain⟨Sz,h61,CX,Lh,QC,h65,q⟩:=b3 q;refine ah<|X1 (k:=4) (kl:=[[(88,[7])],[(89,[])],[(90,[])],[(91,[])]]) (L:=[]) (av:=[[],[],[1],[1,2],[0,1,2,3],[0,1,2,3,4],[0,1,2,3],[0,1,2,3,6],[0,1,2,3,4,5,6,7]]) (gP:=[[],[14],[89],[90]]) (gK:=[true,true,true,true]) (F:=TiZ) (l:=s1.1) (x:=CX) (z:=0) (y:=QC) (t:=7) (dL:=92) (dB:=93) (dM:=94) (dX:=95) O mixed (by kernel_rfl) (cd.cons uX.nil (eI) O O (bU O) (cd.cons (sS [14] O) (ae O g) O O (bU O) (cd.cons (sS [89] O) (fL (um h61) (aJ.cons (aT O) aJ.nil)) O O (bU O) (cd.cons (sS [90] O) (fL (Bl Lh) (aJ.cons (aT O) aJ.nil)) O O (bU O) (cd.nil))))) O O (sS [4,5,7,8,15,26,27,28,88,91] O) (sS [7,4,5,8,15,26,27,28,88,91] O) O O O O O O (JC (F:=TiZ) (x:=CX) (z:=0) BJ Zt oW (jD.same O) O (aT O)) (JC (F:=TiZ) (x:=CX) (z:=0) BJ Zt oW (jD.same O) O (aT O)) (bR (aT O) aI h65) (SU (F:=TiZ) (x:=CX) (z:=0) BJ Zt oW (jD.same O) O (aT O) (bU O) O) (dW O O) (WX (x:=CX) (y:=QC) (z:=0) (jD.same O) O (aT O) (aT O)) (aw ?_)
      obtain⟨x66,h67,WM,h69,x70,h71,q⟩:=b3 q;exact X1 (k:=4) (kl:=[[(96,[7])],[(97,[])],[(98,[])],[(99,[])]]) (L:=[7]) (av:=[[],[],[1],[1,2],[0,1,2,3],[0,1,2,3,4],[0,1,2,3],[0,1,2,3,6],[0,1,2,3,4,5,6,7]]) (gP:=[[],[15],[97],[98]]) (gK:=[true,true,true,true]) (F:=TiZ) (l:=(qp s1.1 CX QC)) (x:=WM) (z:=0) (y:=x70) (t:=7) (dL:=100) (dB:=101) (dM:=102) (dX:=103) O mixed (by kernel_rfl) (cd.cons uX.nil (eI) O O (bU O) (cd.cons (sS [15] O) (ae O g) O O (bU O) (cd.cons (sS [97] O) (fL (um h67) (aJ.cons (aT O) aJ.nil)) O O (bU O) (cd.cons (sS [98] O) (fL (Bl h69) (aJ.cons (aT O) aJ.nil)) O O (bU O) (cd.nil))))) O O (sS [4,5,7,8,26,27,28,96,99] O) (sS [7,4,5,8,26,27,28,96,99] O) O O O O O O (JC (F:=TiZ) (x:=WM) (z:=0) BJ Zt oW (jD.same O) O (aT O)) (JC (F:=TiZ) (x:=WM) (z:=0) BJ Zt oW (jD.same O) O (aT O)) (bn (aT O) aI h71) (SU (F:=TiZ) (x:=WM) (z:=0) BJ Zt oW (jD.same O) O (aT O) (bU O) O) (dW O O) (WX (x:=WM) (y:=x70) (z:=0) (jD.same O) O (aT O) (aT O)) (cm q O)
  ·refine aw ?_;obtain⟨x72,h73,q⟩:=ab q;exact rK<|cH O h73<|cO (oM O)<|ak 469762480 O (cm q O)
 ·refine aN<|aw<|ah<|rS<|cM<|cP (jF (aT O))<|cF [7,106] O ?_
  refine gc O q (fun aoD q=>?_) fun aoD q=>?_
  ·refine rS<|cI<|cF [6] O ?_
   cases q;exact an (r1 O)
  ·refine aj<|aw<|rS<|cP (ba aW 24 3)<|cF [7,19] O ?_
   refine ah<|rS<|cQ<|cG (Ts (t:=7) O)<|cG (agi (u:=107) O O)<|cP (Nv BJ (aT O))<|cF [19,108] O ?_
   refine ai<|R6 (it:=108) (fun(p:ate×Int)=>(aW p.1,TiZ p.2)) (σ:=(ard ate)) (fun ug=>[(19,.buf 24 3 (lT aW ug))]) (AW q) (sS [108,19] O) (fun seen ug hT hE=>?_)
   refine ah<|Wg O (sS [19] O) O O (fun j hj hn=>aw ?_) (fun hE2=>aw ?_)
   ·obtain⟨PE,hx⟩:=aiU hj;obtain⟨z77,q⟩:=hT j PE hx hn;have hf:=q;refine ah (rY O (fun _=>aj (aw ?_)) (fun h=>by cases h));refine ai<|rS<|cP (Ny (k:=aW PE.1) (e:=TiZ PE.2) O (by simp[hx]))<|cE<|cE<|cT jR<|cs O O O B<|cA<|cF [19,20,21,108] O ?_
    refine rS<|cM<|cP (da (aT O) aI)<|cF [19,20,108,115] O ?_
    refine gc O q (fun aoC q=>?_) fun aoC q=>?_
    ·obtain⟨PD,h80,q⟩:=ab q;cases q;refine rK<|cQ<|cU O B<|cP (bS jR Oy O O)<|cS (dp As agT (dI O) O O (aT O) h80 (bU O))<|cS (bt O O (bU O) _ (Or.inl O))<|cF [19,108] O (fun a w H hs=>?_)
     try unfold Exit.then
     try unfold Exit.inBlock
     try simp only[if_true]
     exact⟨_,_,_,hx,hn,hf,H,hs.weaken (uX.sub (sS [108,19] O))⟩
    ·cases q;refine aj (fun a w H hs=>?_)
     try unfold Exit.then
     try unfold Exit.inBlock
     try simp only[if_true]
     exact⟨_,_,_,hx,hn,hf,H,hs.weaken (uX.sub (sS [108,19] O))⟩
   ·have q:=hE hE2;refine ah (rY O (fun h=>by cases h) (fun _=>?_));refine aN<|aw<|ah<|ai<|rS<|cQ<|cP (mU As O O)<|cP (df (aT O) aI)<|cA<|cF [19,120] O ?_
    refine gc O q (fun aim q=>?_) fun aim q=>?_
    ·refine rS<|cI<|cF [6] O ?_
     cases q;exact an (r1 O)
    ·obtain⟨x82,h83,q⟩:=aH q;obtain⟨PC,h85,q⟩:=aH q;obtain⟨x86,h87,q⟩:=aH q;obtain⟨x88,h89,q⟩:=aH q;obtain⟨x90,h91,q⟩:=aH q;obtain⟨x92,h93,q⟩:=aH q;obtain⟨WJ,h95,q⟩:=aH q;obtain⟨Yt,h97,q⟩:=aH q;refine gE 16 mixed<|dP [19] O (eI)<|dP [125,19] O (mU As O O)<|dP [126] O (df (aT O) aI)<|dP [127] O (oM O)<|dV [19,128] O O O (ov 19 O on) (fun rW=>eI)<|dV [128,129,19] O O O (oo 129 O id (ov 19 O on)) (fun hg2=>dK Hs O O aI (h83 hg2))<|dV [128,130,19] O O O (oo 130 O id (ov 19 O on)) (fun P=>og (f:=aW) (fun _=>O) O O (bF (h85 P)) B)<|dV [128,131] O O O (oo 131 O id on) (fun wk=>oC (gT (h87 wk)) O)<|dV [19,128] O O O (ov 19 O on) (fun Az=>eI)<|dV [128,133,19] O O O (oo 133 O id (ov 19 O on)) (fun CL=>dK Hs O O aI (h89 CL))<|dV [128,134,19] O O O (oo 134 O id (ov 19 O on)) (fun JQ=>og (f:=aW) (fun _=>O) O O (bF (h91 JQ)) B)<|dV [128,135] O O O (oo 135 O id on) (fun OQ=>oC (gT (h93 OQ)) O)<|dV [128,132,136] O O O (oo 132 O id (oo 136 O id on)) (fun Pn=>oC (jk (h95 Pn)) O)<|dV [128,137] O O O (oo 137 O id on) (fun Ff=>oC (ln (h97 Ff)) O)<|dP [128,138] O (dh (aT O) O je)<|dP [139] O (oA O)<|dN<|dE [124] O (by kernel_rfl)<|cD ?_
     refine gc O q (fun ail q=>?_) fun ail q=>?_
     ·refine rS<|cI<|cF [6] O ?_
      cases q;exact an (r1 O)
     ·refine aj<|aw<|rS<|cI<|cF [6] O ?_
      cases q;exact an (r1 O)
def rG{a0 r}(q:lI a0=some r):al prog 203 [(TN aS) a0] (.fr 226 8 (lT aS r)):=by
 refine c7 func203 O ntmps203 (by kernel_rfl) fun w0 H0=>rS<|cP (ba aS 226 8)<|ak 1 O<|ah<|rS<|cM<|cP (qo nG (aT O))<|ak 17 O<|gc O q (fun hb1 q=>?_) fun hb1 q=>?_
 ·refine rS<|cP (ba aS 226 8)<|ak 4 O ?_
  cases q;exact an (wQ O O O O)
 ·refine aj (aw ?_);obtain⟨x2,h3,q⟩:=ab q;refine rS<|cP (IW aS GD)<|cM<|cS (xk nG GG (dI O) O ((aT O).imp Yk) h3 (bU O))<|cS (bt O O (bU O) _ (Or.inl O))<|ak 4 O ?_
  cases q;exact an (wQ O O O O)
def MQ{a0 a1 r}(q:DJ a0 a1=some r):al prog 205 [aS a0,aS a1] (.vs [TiZ r]):=by
 refine c7 func205 O ntmps205 (by kernel_rfl) fun w0 H0=>rS<|cX<|cX<|cI<|ak 12 O ?_
 obtain⟨x1,h2,q⟩:=ab q;refine rS<|jg 0 O rh O d<|jg 0 O rh O d<|cC (qN h2) O<|cA<|cF [4] O ?_
 cases q;exact an (r1 O)
def MP{a0 c0 r}(q:DI a0 c0=some r):fF prog 206 [aS a0] (.qH 224 false [.buf 226 8 (lT aS c0)]) (.qH 224 false [.buf 226 8 (lT aS r)]) [] []:=by
 refine uS (N:=41) func206 O ntmps206 (by simp) aja O O fun w1 v w0 H0 hk=>?_
 refine lP (sS [0,1,41] O) ?_;refine rS<|cX<|cF [1,2,41] O<|ah<|rS<|cS (Bp (i:=0) true (iV.box O) O O O O Gi (bU O) O)<|cP (ae1 nG O)<|cA<|cF [1,2,3,4,41] O ?_
 obtain⟨x1,h2,q⟩:=aH q;obtain⟨x3,h4,q⟩:=aH q;obtain⟨x5,h6,q⟩:=aH q;obtain⟨x7,h8,q⟩:=aH q;refine gE 14 mixed<|dP [3] O (oM O)<|dP [6] O (cq (aT O) aI)<|dP [7] O (oM O)<|dV [2,8] O O O (ov 2 O on) (fun rW=>a8 O rh)<|dV [8,9,2] O O O (oo 9 O id (ov 2 O on)) (fun hg2=>oP 0 O O d)<|dV [1,8] O O O (ov 1 O on) (fun P=>Ri (i:=0) (iV.box O) O O O Gi)<|dV [3,8] O O O (ov 3 O on) (fun wk=>oM O)<|dV [8,12] O O O (oo 12 O id on) (fun Az=>bn (aT O) aI (h2 Az))<|dV [8,11,13,4] O O O (oo 11 O id (oo 13 O id (ov 4 O on))) (fun CL=>dK Br O O (aT O) (h4 CL))<|dV [8,14,4] O O O (oo 14 O id (ov 4 O on)) (fun JQ=>qP O nb)<|dV [8,15,4] O O O (oo 15 O id (ov 4 O on)) (fun OQ=>ze (f:=aS) (fun _=>O) O O (bF (h6 OQ)) O (aP.agg (i:=1) O O) d)<|dV [8,10,16] O O O (oo 10 O id (oo 16 O id on)) (fun Pn=>oC (qN (h8 Pn)) O)<|dV [8,17] O O O (oo 17 O id on) (fun Ff=>yc (aT O) aI)<|dP [8,18] O (dh (aT O) O je)<|dN<|dE [1,2,3,4,19,41] O (by kernel_rfl)<|cD ?_
 refine gc O q (fun N0 q=>?_) fun N0 q=>?_
 ·refine ah ?_;obtain⟨dz,jv,fp,kU,gp,mu,gS,Q,q⟩:=b4 q;refine gE 10 mixed<|dQ 1 O nb O d<|dP [1] O (Ri (i:=0) (iV.box O) O O O Gi)<|dP [3] O (oM O)<|dP [23] O (bn (aT O) aI jv)<|dP [22,24,4] O (dK Br O O (aT O) kU)<|dP [25,4] O (qP O nb)<|dP [26,4] O (ze (f:=aS) (fun _=>O) O O (bF mu) O (aP.agg (i:=1) O O) d)<|dP [21,27] O (oC (qN Q) O)<|dP [28] O (cq (aT O) aI)<|dN<|dE [1,2,3,4,29,41] O (by kernel_rfl)<|cD<|uU [1,41] O (α:=(ard (Rat×Rat))) (fun UQ=>[(4,.buf 226 8 (lT aS UQ))]) q (fun XE q=>?_) (fun UQ q=>?_)
  ·refine gc O q (fun Gq q=>?_) fun Gq q=>?_
   ·obtain⟨kQ,wb,kP,wP,nZ,Ba,q⟩:=b3 q;exact rK<|cP (Ri (i:=0) (iV.box O) O O O Gi)<|cM<|cP (bn (aT O) aI wb)<|jg 1 O nb O d<|cP (dK Br O O (aT O) wP)<|cP (qP O nb)<|cS (ahe (f:=aS) (y':=(nZ.1,a0.2)) (fun _=>O) O O (bF Ba) (aT O) O (il.agg (i:=1) O O O) d)<|cF [1,4,41] O (cm q O)
   ·exact aj (cm q O)
  ·refine aw ?_;cases q;exact an (fi (we (t:=1) (u:=4) (i:=0) O O O O) (Wx hk O bu.nil O O O O))
 ·refine aj (aw ?_);obtain⟨oN,CP,q⟩:=ab q;cases q;exact rK<|cP (Ri (i:=0) (iV.box O) O O O Gi)<|cU O tK<|cP (bS lZ GD O O)<|cS (dp nG GG (dI O) O O (aT O) CP (bU O))<|cS (F8 (i:=0) (iV.box O) O O O (wS.buf O) O Gi)<|cG (we (t:=1) (u:=40) (i:=0) O O O O)<|cY (sS [1,41] O) (Wy hk O bu.nil O O O O)
def Bk{a0 r}(q:j6 a0=some r):al prog 126 [(TN aS) a0] (.vs [(TL aS) r]):=by
 refine c7 func126 O ntmps126 (by kernel_rfl) fun w0 H0=>rS<|cP (aA (Arg.nn (f:=aS)))<|ak 1 O ?_
 obtain⟨x1,h2,q⟩:=ab q;refine rS<|cM<|cC (rG h2) O<|cS (bt O O (bU O) _ (Or.inl O))<|ak 1 O ?_
 obtain⟨x3,h4,q⟩:=ab q;refine rS<|cQ<|cS (jK (xs:=[]) (ys:=[.func 205]) (YY h4) (dZ.same O) O O O aJ.nil (aJ.cons (Arg.fn fun _ _ h=>MQ (D:=DR.strict) h) aJ.nil) (bU O) O)<|ak 1 O<|rS<|cPr (Ep (ps:=[.buf 226 8 []]) false (GP) HL (yQ.buf O yQ.nil)) O<|ak 9 O<|rS<|cP (abn (us:=[3]))<|cP (abp O)<|ak 25 O<|ah<|rS<|cG (ij (t:=0) O)<|cM<|cJ nG O<|cN<|ak 28696 O<|ai<|jj [4,12,13] O (σ:=(ard (Rat×Rat))×Int) (fun s5=>[(3,.qH 224 false [.buf 226 8 (lT aS s5.1)]),(14,.val (TiZ s5.2))]) q O (fun k6 s5 q=>?_)
 refine rS<|cL O O<|ak 61464 O<|ah<|gc O q (fun A9 q=>?_) fun A9 q=>?_
 ·refine aj<|aw<|ah<|ai ?_
  obtain⟨x8,h9,q⟩:=ab q;refine rS<|cP (oX Br (dI O) O O h9)<|cR O tK<|cT lZ<|cs O O O tK<|ak 28760 O ?_
  obtain⟨dz,jv,q⟩:=ab q;refine rK<|cP (abm O)<|cU O tK<|cS (ahd (MP jv) O O O O (aJ.cons (aT O) aJ.nil) (bU O) O)<|ak 28696 O (aw ?_)
  obtain⟨fp,kU,q⟩:=ab q;exact rK<|cH O kU<|cO (oM O)<|ak 28696 O (cm q O)
 ·refine aN<|aw<|rS<|cS (Bp (i:=0) true (iV.box O) O O O O Gi (bU O) O)<|cS (bt O O (bU O) _ (Or.inl O))<|ak 4 O ?_
  cases q;exact an (fi (ij (t:=2) O) (fX O O (bu.tmp O O bu.nil)))
def AM{a0 a1 r}(q:ku a0 a1=some r):al prog 130 [bT a0,bT a1] (.vs [TiZ r]):=by
 refine c7 func130 O ntmps130 (by kernel_rfl) fun w0 H0=>rS<|cX<|cX<|cI<|ak 12 O<|ah ?_
 obtain⟨x1,h2,q⟩:=ab q;refine rS<|jg 0 O mv O g<|jg 0 O mv O g<|cC (l8 h2) O<|cA<|ak 44 O<|rS<|cM<|cP (da (aT O) aI)<|ak 4140 O<|gc O q (fun hb3 q=>?_) fun hb3 q=>?_
 ·refine rS<|cM<|cA<|cF [4] O ?_
  cases q;exact an (r1 O)
 ·refine aj (aw ?_);obtain⟨x4,h5,q⟩:=ab q;refine rS<|jg 1 O tQ O g<|jg 1 O tQ O g<|cC (l8 h5) O<|cA<|cF [4] O ?_
  cases q;exact an (r1 O)
end
end Trn
