/-
  Part of the proof of DrawViews.
-/
import Derived.Test.YtgmphoejohhmgaaGreatDoorHc
set_option maxRecDepth 100000
set_option maxHeartbeats 20000000
set_option linter.all false
open Go Go.RowKit Go.Proofs Go.Proofs.Tryz
namespace Trn
section
variable[D:DR]
def G9{a0 r}(q:p8 a0=some r):al prog 5 [(TL aW) a0] (.vs [aY r]):=by
 refine c7 func5 O ntmps5 (by kernel_rfl) fun w0 H0=>rS<|cB<|ak 1 O<|ah<|rS<|cI<|ak 9 O<|ai<|jj [0] O (σ:=Int) (fun s1=>[(3,.val (TiZ s1))]) q O (fun k2 s1 q=>?_)
 refine ah<|rS<|cM<|cM<|cJ As O<|cL O O<|ak 265 O<|gc O q (fun hb3 q=>?_) fun hb3 q=>?_
 ·refine aj<|aw<|ah<|ai<|rS<|cI<|ak 25 O<|ai<|jj [0,3] O (σ:=Int) (fun s4=>[(4,.val (TiZ s4))]) q O (fun k5 s4 q=>?_)
  refine ah<|rS<|cM<|cP (eC (aT O) aI)<|ak 4121 O<|gc O q (fun Pp q=>?_) fun Pp q=>?_
  ·refine aj<|aw<|ah<|ai ?_
   obtain⟨x7,h8,x9,kG,q⟩:=b2 q;refine rS<|cM<|cM<|cM<|cP (oX Hs (dI O) O O h8)<|cP (ahB (f:=TS) (l:=([x7.1,x7.2.1,x7.2.2]:ard adx)) jC (fun _=>O) O (aT O) (aT O) kG)<|cR O X<|cP (fy IF (aT O))<|cP (cq (aT O) aI)<|ak 4194329 O<|gc O q (fun JU q=>?_) fun JU q=>?_
   ·refine rS<|cB<|ak 4 O ?_
    cases q;exact an (r1 O)
   ·refine aj (aw ?_);obtain⟨fp,kU,q⟩:=ab q;exact rK<|cM<|cH O kU<|cO (oA O)<|ak 25 O (cm q O)
  ·refine aN (aw ?_);obtain⟨gp,mu,q⟩:=ab q;exact rK<|cM<|cH O mu<|cO (oA O)<|ak 9 O (cm q O)
 ·refine aN<|aw<|rS<|cB<|ak 4 O ?_
  cases q;exact an (r1 O)
def QL{a0 r}(q:xt a0=some r):al prog 4 [cz a0] (.vs [aY r]):=by
 refine c7 func4 O ntmps4 (by kernel_rfl) fun w0 H0=>rS<|cX<|cB<|ak 2 O ?_
 obtain⟨x1,h2,q⟩:=ab q;refine rS<|jg 0 O ET O B<|jg 1 O zK O B<|jg 2 O zJ O B<|cP (bS jR Oy O O)<|cC (G9 h2) O<|cA<|ak 4 O ?_
 cases q;exact an (r1 O)
def G6{a0 r}(q:tj a0=some r):al prog 109 [TS a0] (.vs [TiZ r]):=by
 refine c7 func109 O ntmps109 (by kernel_rfl) fun w0 H0=>rS<|cI<|ak 1 O<|ah<|rS<|cM<|cP (uA (aT O) (Arg.s O))<|ak 17 O<|gc O q (fun hb1 q=>?_) fun hb1 q=>?_
 ·refine rS<|cI<|ak 4 O ?_
  cases q;exact an (r1 O)
 ·refine aj<|aw<|ah ?_
  obtain⟨x2,h3,q⟩:=aH q;refine rS<|cM<|cP (fy IF (aT O))<|cP (cq (aT O) aI)<|cM<|gV O O (ov 0 O on) (fun rW=>oM O)<|gV O O (oo 9 O id on) (fun hg2=>pX IF (aT O) aI (h3 hg2))<|gV O O (oo 10 O id on) (fun P=>df (aT O) aI)<|cP (dh (aT O) O je)<|cF [12] O<|gc O q (fun Lf q=>?_) fun Lf q=>?_
  ·refine rS<|cI<|ak 4 O ?_
   cases q;exact an (r1 O)
  ·refine aj<|aw<|rS<|cI<|ak 4 O ?_
   cases q;exact an (r1 O)
def y5{a0 r}(q:pf a0=some r):al prog 55 [TS a0] (.vs [TS r]):=by
 refine c7 func55 O ntmps55 (by kernel_rfl) fun w0 H0=>rS<|cP (aA (Arg.s O))<|ak 1 O<|ah ?_
 obtain⟨x1,h2,q⟩:=ab q;refine rS<|cM<|cC (G6 h2) O<|cP (eC (aT O) aI)<|ak 33 O<|gc O q (fun hb3 q=>?_) fun hb3 q=>?_
 ·obtain⟨x4,h5,q⟩:=ab q;refine rS<|cM<|cP (fY IF (aT O) (Lo.some aI) Lo.none h5)<|cA<|ak 4 O ?_
  cases q;exact an (r1 O)
 ·refine aj<|aw<|ah ?_
  obtain⟨x6,h7,q⟩:=ab q;refine rS<|cM<|cC (G6 h7) O<|cP (df (aT O) aI)<|ak 1025 O<|gc O q (fun Y q=>?_) fun Y q=>?_
  ·refine rS<|cM<|cA<|ak 4 O ?_
   cases q;exact an (r1 O)
  ·refine aj (aw ?_);obtain⟨x9,kG,q⟩:=ab q;refine rS<|cM<|cP (pY (Arg.s O) (aT O) kG)<|cA<|ak 4 O ?_
   cases q;exact an (r1 O)
def pR{a0 a1 a2 a3 r}(q:mo a0 a1 a2 a3=some r):al prog 54 [TiZ a0,TiZ a1,TiZ a2,TS a3] (.vs [bz r]):=by
 unfold mo at q;refine c7 func54 O ntmps54 (by kernel_rfl) fun w0 H0=>rS<|cT pN<|ak 271 O<|rS<|cM<|cM<|cM<|cP (bA QB sc O O)<|cM<|cP (bB pN Ln O)<|cs O O O lO<|cF [8] O ?_
 cases q;exact an (q1 O lO)
def Da{a0 a1 a2 a3 a4 a5 r}(q:zq a0 a1 a2 a3 a4 a5=some r):al prog 15 [TS a0,TS a1,TS a2,TS a3,TS a4,TS a5] (.vs [(TL bz) r]):=by
 refine c7 func15 O ntmps15 (by kernel_rfl) fun w0 H0=>rS<|cP (aA (Arg.nn (f:=bz)))<|ak 63 O ?_
 obtain⟨x1,h2,x3,h4,x5,h6,x7,h8,x9,kG,iM,qC,q⟩:=b6 q;obtain⟨iW,nJ,kd,S,iP,T,q⟩:=b3 q;refine rS<|cM<|cC (y5 h2) O<|cC (pR h4) O<|cM<|cC (y5 h6) O<|cC (pR h8) O<|cM<|cC (y5 kG) O<|cC (pR qC) O<|cM<|cC (pR nJ) O<|cM<|cC (pR S) O<|cM<|cC (pR T) O<|cP (sY (s':= .val (TL bz ([x3,x7,iM,iW,kd,iP]:ard ((Int×Int×Int)×adx)))) (bS pN ami O O) O)<|cA<|cF [12] O ?_
 cases q;exact an (r1 O)
def sN{r:ate}(q:mW=some r):al prog 28 [] (.vs [aW r]):=by
 unfold mW at q;refine c7 func28 O ntmps28 (by kernel_rfl) fun w0 H0=>rS<|cT jR<|ak 1 O<|rS<|cP (vR jR jC (uc O (uc O (uc O un))) (iy.cons (i:=0) (Arg.s O) O O (iy.cons (i:=1) (Arg.s O) O O (iy.cons (i:=2) (Arg.s O) O O iy.nil))))<|cs O O O B<|ak 1 O ?_
 cases q;exact an (q1 O B)
def ny{a0 r}(q:j4 a0=some r):al prog 267 [(TL TiZ) a0] (.vs [(TL TiZ) r]):=by
 refine c7 func267 O ntmps267 (by kernel_rfl) fun w0 H0=>rS<|cP (aA (Arg.nn (f:=TiZ)))<|ak 1 O<|ah<|ai<|gl (σ:=(ard Int)) (fun s1=>[(0,.val (TL TiZ s1))]) q O (fun k2 s1 q=>?_)
 refine ah ?_;obtain⟨x3,h4,q⟩:=aH q;obtain⟨x5,h6,q⟩:=aH q;refine rS<|cM<|cJ dF O<|cP (cq (aT O) aI)<|cM<|gV O O (ov 0 O on) (fun rW=>oM O)<|gV O O (ov 0 O on) (fun hg2=>oM O)<|gV O O (oo 8 O id on) (fun P=>pW dF (aT O))<|gV O O (oo 9 O id on) (fun wk=>bn (aT O) aI (h4 wk))<|gV O O (oo 7 O id (oo 10 O id on)) (fun Az=>kS eT (dI O) (aT O) (aT O) (h6 Az))<|gV O O (oo 11 O id on) (fun CL=>aU (aT O) C)<|gV O O (oo 12 O id on) (fun JQ=>df (aT O) aI)<|cP (dh (aT O) O je)<|cF [0,14] O ?_
 refine gc O q (fun A9 q=>?_) fun A9 q=>?_
 ·refine aj<|aw<|ai ?_
  obtain⟨x8,h9,dz,jv,q⟩:=b2 q;exact rK<|cM<|cM<|cJ dF O<|cP (bn (aT O) aI h9)<|cP (sv eT (dI O) (aT O) Lo.none (Lo.some (aT O)) jv)<|cO (oA O)<|ak 1 O (cm q O)
 ·refine aN<|aw<|rS<|cM<|cA<|ak 4 O ?_
  cases q;exact an (r1 O)
def jl{a0 a1 r}(q:fa a0 a1=some r):al prog 191 [aY a0,(TL TiZ) a1] (.vs [bh r]):=by
 refine c7 func191 O ntmps191 (by kernel_rfl) fun w0 H0=>rS<|cT j3<|ak 19 O ?_
 obtain⟨x1,h2,q⟩:=ab q;refine rS<|cM<|cC (ny h2) O<|cO (oA O)<|ak 19 O<|rS<|cM<|cM<|gV O O (ov 1 O on) (fun rW=>oM O)<|gV O O (oo 9 O id on) (fun hg2=>pW dF (aT O))<|gV O O (oo 10 O id on) (fun P=>cq (aT O) aI)<|cP (dh (aT O) O je)<|cM<|cP (bB j3 aeq O)<|cs O O O eF<|cF [4] O ?_
 cases q;exact an (q1 O eF)
def u6{a0 r}(q:nU a0=some r):al prog 111 [TiZ a0] (.vs [bh r]):=by
 refine c7 func111 O ntmps111 (by kernel_rfl) fun w0 H0=>rS<|cT j3<|ak 5 O<|rS<|cP (ba TiZ 3 1)<|ak 13 O<|rS<|cM<|cP (eC (aT O) aI)<|cA<|ak 29 O<|ah<|ai<|jj [2,4] O (σ:=Int×ard Int) (fun s1=>[(0,.val (TiZ s1.1)),(3,.buf 3 1 (lT TiZ s1.2))]) q O (fun k2 s1 q=>?_)
 refine ah<|rS<|cM<|cP (da (aT O) aI)<|ak 541 O<|gc O q (fun hb3 q=>?_) fun hb3 q=>?_
 ·refine aj<|aw<|ai ?_
  obtain⟨x4,h5,q⟩:=ab q;refine rS<|cM<|cP (mQ (aT O) aI h5)<|cA<|ak 61 O<|ah<|rS<|cM<|cP (eC (aT O) aI)<|ak 8253 O<|uU [0,2,3,4] O (α:=Int) (fun s6=>[(5,.val (TiZ s6))]) q (fun k7 q=>?_) (fun s6 q=>?_)
  ·refine gc O q (fun Y q=>?_) fun Y q=>?_
   ·obtain⟨x9,kG,q⟩:=ab q;exact rK<|cM<|cP (bn aI (aT O) kG)<|cO (oA O)<|ak 61 O (cm q O)
   ·exact aj (cm q O)
  ·refine aw ?_;obtain⟨iM,qC,q⟩:=ab q;refine rS<|cQ<|cM<|cP (bS oW rZ O O)<|cS (dp dF GH (dI O) O O (aT O) qC (bU O))<|cS (bt O O (bU O) _ (Or.inl O))<|ak 29 O ?_
   obtain⟨iW,nJ,q⟩:=ab q;exact rK<|cM<|cP (rq (aT O) aI nJ)<|cO (oA O)<|ak 29 O (cm q O)
 ·refine aN (aw ?_);obtain⟨kd,S,q⟩:=ab q;refine rS<|cM<|cQ<|cG (ij (t:=3) O)<|cG (jL (s:=23) O O)<|cC (jl S) O<|cs O O O eF<|ak 4 O ?_
  cases q;exact an (q1 O eF)
def rn{a0 a1 r}(q:fw a0 a1=some r):al prog 190 [TiZ a0,TiZ a1] (.vs [TS r]):=by
 refine c7 func190 O ntmps190 (by kernel_rfl) fun w0 H0=>rS<|cP (aA (Arg.s O))<|ak 3 O<|rS<|cP (aA (Arg.s O))<|ak 35 O<|ah<|ai<|gl (σ:=Int×adx) (fun s1=>[(0,.val (TiZ s1.1)),(1,.val (TiZ a1)),(5,.val (TS s1.2))]) q O (fun k2 s1 q=>?_)
 refine ah<|rS<|cM<|cP (cq (aT O) aI)<|cM<|gV O O (ov 5 O on) (fun rW=>oM O)<|gV O O (oo 9 O id on) (fun hg2=>fy U (aT O))<|gV O O (ov 1 O on) (fun P=>oM O)<|gV O O (oo 10 O id (oo 11 O id on)) (fun wk=>eC (aT O) (aT O))<|cP (fO (aT O) O jY)<|ak 8227 O<|gc O q (fun hb3 q=>?_) fun hb3 q=>?_
 ·refine aj<|aw<|ai ?_
  obtain⟨x4,h5,x6,h7,x8,h9,dz,jv,fp,kU,q⟩:=b5 q;refine rS<|cM<|cP (mQ (aT O) aI h5)<|cM<|cP (mQ (aT O) aI h7)<|cH O h9<|cP (fY U (Arg.s O) (Lo.some (aT O)) (Lo.some (aT O)) jv)<|cM<|cP (pY (aT O) (aT O) kU)<|cO (oA O)<|ak 35 O ?_
  obtain⟨gp,mu,q⟩:=ab q;exact rK<|cM<|cP (rq (aT O) aI mu)<|cO (oA O)<|ak 35 O (cm q O)
 ·refine aN<|aw<|rS<|cM<|cA<|cF [4] O ?_
  cases q;exact an (r1 O)
def Bj{a0 r}(q:mi a0=some r):al prog 110 [bh a0] (.vs [TS r]):=by
 refine c7 func110 O ntmps110 (by kernel_rfl) fun w0 H0=>rS<|cX<|cP (aA (Arg.s O))<|ak 2 O<|ah<|rS<|jg 1 O iq O lY<|cJ dF O<|cP (df (aT O) aI)<|ak 258 O<|gc O q (fun hb1 q=>?_) fun hb1 q=>?_
 ·refine rS<|cP (aA (Arg.s O))<|ak 4 O ?_
  cases q;exact an (r1 O)
 ·refine aj (aw ?_);obtain⟨x2,h3,x4,h5,x6,h7,q⟩:=b3 q;refine rS<|jg 1 O iq O lY<|jg 1 O iq O lY<|cJ dF O<|cP (bn (aT O) aI h3)<|cP (oX eT (dI O) O O h5)<|cR O C<|cC (rn h7) O<|cA<|ak 10 O<|ah ?_
  obtain⟨x8,h9,q⟩:=ab q;refine rS<|jg 1 O iq O lY<|cJ dF O<|cP (bn (aT O) aI h9)<|cA<|ak 26 O<|ai<|jj [1] O (σ:=adx×Int) (fun Ga=>[(3,.val (TS Ga.1)),(4,.val (TiZ Ga.2))]) q O (fun k11 Ga q=>?_)
  refine ah<|rS<|cM<|cP (jG (aT O) aI)<|ak 8388634 O<|gc O q (fun JT q=>?_) fun JT q=>?_
  ·refine aj<|aw<|ah<|ai ?_
   obtain⟨iW,nJ,kd,S,iP,T,q⟩:=b3 q;refine rK<|cM<|jg 1 O iq O lY<|cM<|cP (oX eT (dI O) O O nJ)<|cR O C<|cC (rn S) O<|cP (pY (aT O) (aT O) T)<|cO (oA O)<|ak 26 O (aw ?_)
   obtain⟨ju,Z,q⟩:=ab q;exact rK<|cM<|cP (bn (aT O) aI Z)<|cO (oA O)<|ak 26 O (cm q O)
  ·refine aN<|aw<|ah<|rS<|jg 0 O pC O xD<|cF [3,35] O<|gc O q (fun acy q=>?_) fun acy q=>?_
   ·obtain⟨my,Cf,q⟩:=ab q;refine rS<|cM<|cP (pY (Arg.s O) (aT O) Cf)<|cA<|ak 4 O ?_
    cases q;exact an (r1 O)
   ·refine aj<|aw<|rS<|cM<|cA<|ak 4 O ?_
    cases q;exact an (r1 O)
def wm{a0 r}(q:rr a0=some r):al prog 56 [TiZ a0] (.vs [TS r]):=by
 refine c7 func56 O ntmps56 (by kernel_rfl) fun w0 H0=>rS<|cP (aA (Arg.s O))<|ak 1 O ?_
 obtain⟨x1,h2,x3,h4,q⟩:=b2 q;refine rS<|cM<|cC (u6 h2) O<|cC (Bj h4) O<|cA<|ak 4 O ?_
 cases q;exact an (r1 O)
def gL{a0 a1 a2 r}(q:gh a0 a1 a2=some r):al prog 17 [TiZ a0,TiZ a1,TiZ a2] (.vs [aW r]):=by
 refine c7 func17 O ntmps17 (by kernel_rfl) fun w0 H0=>rS<|cT jR<|ak 71 O ?_
 obtain⟨x1,h2,x3,h4,x5,h6,q⟩:=b3 q;refine rS<|cM<|cC (wm h2) O<|cM<|cC (wm h4) O<|cM<|cC (wm h6) O<|cP (bA jR jC O O)<|cs O O O B<|cF [6] O ?_
 cases q;exact an (q1 O B)
def vg{r:(ate×ate×ate)}(q:rb=some r):al prog 16 [] (.vs [cz r]):=by
 refine c7 func16 O ntmps16 (by kernel_rfl) fun w0 H0=>rS<|cT zR<|ak 1 O ?_
 obtain⟨x1,h2,x3,h4,x5,h6,q⟩:=b3 q;refine rS<|cC (sN h2) O<|cC (gL h4) O<|cC (gL h6) O<|cP (bB zR M5 O)<|cs O O O kv<|ak 1 O ?_
 cases q;exact an (q1 O kv)
def E6{a0 a1 r}(q:qu a0 a1=some r):al prog 46 [(TL aW) a0,(Fj prog (fun(x:ate)=>[aW x]) (fun(x:Int)=>[TiZ x])) a1] (.vs [TiZ r]):=by
 refine c7 func46 O ntmps46 (by kernel_rfl) fun w0 H0=>rS<|cI<|ak 3 O<|ah<|rS<|cM<|cJ As O<|cN<|ak 1794 O<|ai<|jj [1,8,9] O (σ:=Int) (fun s1=>[(10,.val (TiZ s1))]) q O (fun k2 s1 q=>?_)
 refine rS<|cL O O<|ak 3842 O<|ah<|gc O q (fun hb3 q=>?_) fun hb3 q=>?_
 ·refine aj<|aw<|ah<|ai ?_
  obtain⟨x4,h5,q⟩:=ab q;refine rS<|cP (oX Hs (dI O) O O h5)<|cR O B<|cT jR<|cs O O O B<|ak 1858 O ?_
  obtain⟨x6,h7,q⟩:=ab q;refine rS<|cM<|cU O B<|cP (qQ O h7 (aJ.cons (aT O) aJ.nil))<|cA<|ak 1922 O<|rS<|cM<|cP (da (aT O) aI)<|ak 264066 O<|gc O q (fun Y q=>?_) fun Y q=>?_
  ·refine rS<|cM<|cA<|cF [4] O ?_
   cases q;exact an (r1 O)
  ·refine aj (aw ?_);obtain⟨x9,kG,q⟩:=ab q;exact rK<|cH O kG<|cO (oM O)<|ak 1794 O (cm q O)
 ·refine aN<|aw<|rS<|cI<|cF [4] O ?_
  cases q;exact an (r1 O)
def jm{a0 a1 r}(q:br a0 a1=some r):al prog 301 [TS a0,TS a1] (.vs [aY r]):=by
 refine c7 func301 O ntmps301 (by kernel_rfl) fun w0 H0=>rS<|cB<|ak 3 O ?_
 obtain⟨x1,h2,q⟩:=aH q;refine rS<|cM<|cP (fy U (aT O))<|cM<|cP (fy U (aT O))<|cP (jG (aT O) (aT O))<|cM<|gV O O (ov 0 O on) (fun rW=>oM O)<|gV O O (ov 1 O on) (fun hg2=>oM O)<|gV O O (oo 12 O id on) (fun P=>fy U (aT O))<|gV O O (oo 11 O id (oo 13 O id on)) (fun wk=>fY U (aT O) Lo.none (Lo.some (aT O)) (h2 wk))<|gV O O (ov 1 O on) (fun Az=>oM O)<|gV O O (oo 14 O id (oo 15 O id on)) (fun CL=>uA (aT O) (aT O))<|cP (dh (aT O) O je)<|cA<|cF [4] O ?_
 cases q;exact an (r1 O)
def sO{a0 a1 r}(q:gR a0 a1=some r):al prog 228 [TS a0,TS a1] (.vs [TS r.1,aY r.2]):=by
 refine c7 func228 O ntmps228 (by kernel_rfl) fun w0 H0=>rS<|cP (aA (Arg.s O))<|cB<|ak 3 O<|ah ?_
 obtain⟨x1,h2,q⟩:=ab q;refine rS<|cM<|cM<|cC (jm h2) O<|cP (jF (aT O))<|ak 515 O<|gc O q (fun hb3 q=>?_) fun hb3 q=>?_
 ·refine rS<|cM<|cA<|cB<|ak 48 O ?_
  cases q;exact an (r2 O)
 ·refine aj (aw ?_);obtain⟨x4,h5,q⟩:=ab q;refine rS<|cM<|cM<|cP (fy U (aT O))<|cP (fY U (aT O) (Lo.some (aT O)) Lo.none h5)<|cA<|cB<|ak 48 O ?_
  cases q;exact an (r2 O)
def E2{a0 a1 r}(q:gH a0 a1=some r):al prog 153 [TS a0,TS a1] (.vs [TS r.1,aY r.2]):=by
 refine c7 func153 O ntmps153 (by kernel_rfl) fun w0 H0=>rS<|cP (aA (Arg.s O))<|cB<|ak 3 O ?_
 obtain⟨x1,h2,q⟩:=ab q;refine rS<|cM<|cM<|cC (sO h2) O<|cE<|cE<|cA<|cA<|ak 48 O ?_
 cases q;exact an (r2 O)
def Mv{a0 r}(q:th a0=some r):al prog 229 [TS a0] (.vs [aY r]):=by
 refine c7 func229 O ntmps229 (by kernel_rfl) fun w0 H0=>rS<|cB<|ak 1 O<|ah<|rS<|cM<|cP (fy U (aT O))<|cN<|ak 97 O<|ai<|jj [0,5] O (σ:=Int) (fun s1=>[(6,.val (TiZ s1))]) q O (fun k2 s1 q=>?_)
 refine rS<|cL O O<|ak 225 O<|ah<|gc O q (fun hb3 q=>?_) fun hb3 q=>?_
 ·refine aj<|aw<|ah<|ai<|rS<|cM<|cA<|ak 105 O ?_
  obtain⟨x4,h5,q⟩:=ab q;obtain⟨x6,h7,q⟩:=aH q;refine rS<|cM<|cM<|cP (pX U (aT O) (aT O) h5)<|cP (eC (aT O) aI)<|cM<|gV O O (ov 0 O on) (fun rW=>oM O)<|gV O O (ov 3 O on) (fun hg2=>oM O)<|gV O O (oo 14 O id (oo 15 O id on)) (fun P=>pX U (aT O) (aT O) (h7 P))<|gV O O (oo 16 O id on) (fun wk=>cq (aT O) aI)<|cP (fO (aT O) O jY)<|ak 262241 O<|gc O q (fun Y q=>?_) fun Y q=>?_
  ·refine rS<|cB<|ak 4 O ?_
   cases q;exact an (r1 O)
  ·refine aj (aw ?_);obtain⟨x9,kG,q⟩:=ab q;exact rK<|cH O kG<|cO (oM O)<|ak 97 O (cm q O)
 ·refine aN<|aw<|rS<|cM<|cP (Nw (aT O) (Arg.s O))<|cA<|ak 4 O ?_
  cases q;exact an (r1 O)
def Fo{a0 r}(q:mA a0=some r):al prog 154 [TS a0] (.vs [aY r]):=by
 refine c7 func154 O ntmps154 (by kernel_rfl) fun w0 H0=>rS<|cB<|ak 1 O ?_
 obtain⟨x1,h2,q⟩:=ab q;obtain⟨x3,h4,q⟩:=aH q;refine rS<|cM<|cC (Mv h2) O<|cM<|gV O O (ov 0 O on) (fun rW=>oM O)<|gV O O (oo 6 O id on) (fun hg2=>uA (aT O) (Arg.s O))<|gV O O (oo 7 O id on) (fun P=>oM O)<|gO O O (ov 0 O on) (fun wk=>oM O)<|gO O O (oo 9 O id on) (fun Az=>pX U (aT O) aI (h4 Az))<|gO O O (oo 10 O id on) (fun CL=>da (aT O) aI)<|gV O O (oo 8 O id (ov 11 O on)) (fun JQ=>fO (aT O) O (fun h=>D9 (id JQ) (jY h)))<|cP (dh (aT O) O je)<|cA<|ak 4 O ?_
 cases q;exact an (r1 O)
def E1{a0 a1 r}(q:qq a0 a1=some r):al prog 232 [TS a0,TS a1] (.vs [aY r]):=by
 refine c7 func232 O ntmps232 (by kernel_rfl) fun w0 H0=>rS<|cB<|ak 3 O ?_
 obtain⟨x1,h2,q⟩:=ab q;refine rS<|cM<|cM<|cC (jm h2) O<|cA<|cF [4] O ?_
 cases q;exact an (r1 O)
def sG{a0 a1 r}(q:fh a0 a1=some r):al prog 302 [TS a0,TS a1] (.vs [TS r]):=by
 refine c7 func302 O ntmps302 (by kernel_rfl) fun w0 H0=>rS<|cP (aA (Arg.s O))<|ak 3 O<|ah ?_
 obtain⟨x1,h2,q⟩:=ab q;refine rS<|cM<|cM<|cC (jm h2) O<|ak 131 O<|gc O q (fun hb3 q=>?_) fun hb3 q=>?_
 ·obtain⟨x4,h5,q⟩:=ab q;refine rS<|cM<|cM<|cP (fy U (aT O))<|cP (fY U (aT O) (Lo.some (aT O)) Lo.none h5)<|cA<|cF [4] O ?_
  cases q;exact an (r1 O)
 ·refine aj<|aw<|rS<|cM<|cA<|cF [4] O ?_
  cases q;exact an (r1 O)
def vI{a0 a1 r}(q:gX a0 a1=some r):al prog 233 [TS a0,TS a1] (.vs [TS r]):=by
 refine c7 func233 O ntmps233 (by kernel_rfl) fun w0 H0=>rS<|cP (aA (Arg.s O))<|ak 3 O ?_
 obtain⟨x1,h2,q⟩:=ab q;refine rS<|cM<|cM<|cC (sG h2) O<|cA<|cF [4] O ?_
 cases q;exact an (r1 O)
def C9{a0 r}(q:pn a0=some r):al prog 137 [TiZ a0] (.vs [aZ r]):=by
 unfold pn at q;refine c7 func137 O ntmps137 (by kernel_rfl) fun w0 H0=>rS<|cT gv<|ak 5 O<|rS<|cM<|cP (bB gv ur O)<|cs O O O m<|ak 4 O ?_
 cases q;exact an (q1 O m)
def F1{a0 r}(q:uJ a0=some r):al prog 224 [TiZ a0] (.vs [(TI .u64) r]):=by
 refine c7 func224 O ntmps224 (by kernel_rfl) fun w0 H0=>rS<|cI<|ak 1 O<|ah<|rS<|cM<|cP (eC (aT O) aI)<|ak 17 O<|gc O q (fun hb1 q=>?_) fun hb1 q=>?_
 ·refine rS<|cM<|cP (abl (aT O))<|cP (vQ Ky EO (aT O))<|cA<|ak 4 O ?_
  cases q;exact an (r1 O)
 ·refine aj<|aw<|rS<|cM<|cP (vQ Ky EO (aT O))<|cA<|ak 4 O ?_
  cases q;exact an (r1 O)
def iH{a0 r}(q:fM a0=some r):al prog 217 [aZ a0] (.vs [aY r.1,(TL (TI .u64)) r.2]):=by
 refine c7 func217 O ntmps217 (by kernel_rfl) fun w0 H0=>rS<|cX<|cB<|cP (aA (Arg.nn (f:=(TI .u64))))<|ak 2 O<|ah<|ai<|rS<|jg 1 O nI O yJ<|cP (ahz dU (aT O))<|cA<|ak 18 O<|gc O q (fun hb1 q=>?_) fun hb1 q=>?_
 ·refine gE 7 mixed<|dQ 0 O gz O C<|dP [9] O (eC (aT O) aI)<|dQ 1 O nI O yJ<|dP [10] O (oA O)<|dP [12] O (oA O)<|dN<|dE [2,3] O (by kernel_rfl)<|cD ?_
  cases q;exact an (fi (US (t:=3) O) (fX O O (bu.tmp O O (bu.tmp O O bu.nil))))
 ·refine rS<|jg 0 O gz O C<|cP (df (aT O) aI)<|cA<|ak 8194 O<|gc O q (fun hb2 q=>?_) fun hb2 q=>?_
  ·refine rS<|cB<|cP (aA (Arg.nn (f:=(TI .u64))))<|ak 12 O ?_
   cases q;exact an (fi (US (t:=3) O) (fX O O (bu.tmp O O (bu.tmp O O bu.nil))))
  ·refine aj (aw ?_);obtain⟨x3,h4,q⟩:=ab q;refine gE 9 mixed<|dQ 0 O gz O C<|dP [18] O (eC (aT O) aI)<|dQ 0 O gz O C<|dP [21] O (oC (F1 h4) O)<|dP [22] O (sY (s':= .val (TL (TI .u64) ([x3]:ard Int))) (bS w9 adh O O) O)<|dP [19] O (oA O)<|dP [23] O (oA O)<|dN<|dE [2,3] O (by kernel_rfl)<|cD ?_
   cases q;exact an (r2 O)
def oZ{a0 r}(q:lL a0=some r):al prog 290 [(TL (TI .u64)) a0] (.vs [(TL (TI .u64)) r]):=by
 refine c7 func290 O ntmps290 (by kernel_rfl) fun w0 H0=>rS<|cP (aA (Arg.nn (f:=(TI .u64))))<|ak 1 O<|rS<|cM<|cJ dU O<|cA<|ak 9 O<|ah<|ai<|jj [0] O (σ:=Int) (fun s1=>[(3,.val (TiZ s1))]) q O (fun k2 s1 q=>?_)
 refine ah ?_;obtain⟨x3,h4,q⟩:=aH q;obtain⟨x5,h6,q⟩:=aH q;refine rS<|cM<|cP (cq (aT O) aI)<|cM<|gV O O (ov 0 O on) (fun rW=>oM O)<|gV O O (ov 3 O on) (fun hg2=>oM O)<|gV O O (oo 10 O id on) (fun P=>bn (aT O) aI (h4 P))<|gV O O (oo 9 O id (oo 11 O id on)) (fun wk=>kS W (dI O) (aT O) (aT O) (h6 wk))<|gV O O (oo 12 O id on) (fun Az=>aU (aT O) dx)<|gV O O (oo 13 O id on) (fun CL=>df (aT O) aI)<|cP (dh (aT O) O je)<|ak 32777 O<|gc O q (fun A9 q=>?_) fun A9 q=>?_
 ·refine aj<|aw<|ai ?_
  obtain⟨x8,h9,q⟩:=ab q;exact rK<|cM<|cP (bn (aT O) aI h9)<|cO (oA O)<|ak 9 O (cm q O)
 ·refine aN (aw ?_);obtain⟨dz,jv,q⟩:=ab q;refine rS<|cM<|cM<|cP (sv W (dI O) (aT O) Lo.none (Lo.some (aT O)) jv)<|cA<|ak 4 O ?_
  cases q;exact an (r1 O)
def MD{a0 a1 r}(q:tm a0 a1=some r):al prog 225 [(TL (TI .u64)) a0,(TL (TI .u64)) a1] (.vs [(TL (TI .u64)) r]):=by
 refine c7 func225 O ntmps225 (by kernel_rfl) fun w0 H0=>?_
 refine rS<|cP (aA (Arg.nn (f:=(TI .u64))))<|ak 3 O ?_
 obtain⟨x1,h2,x3,h4,q⟩:=b2 q;refine rS<|cM<|cJ dU O<|cM<|cJ dU O<|cP (bR (aT O) (aT O) h2)<|cP (FH (TI .u64) Zn w9 O (aT O) (aT O) h4)<|cS (bt O O (bU O) _ (Or.inl O))<|ak 35 O ?_
 refine ah<|rS<|cM<|cJ dU O<|cN<|ak 7340066 O ?_
 refine ai<|jj [1,20,21] O (σ:=ard Int×Int) (fun s5=>[(5,.buf 332 1 (lT (TI .u64) s5.1)),(22,.val (TiZ s5.2))]) q O (fun k6 s5 q=>?_)
 refine rS<|cL O O<|ak 15728674 O ?_
 refine ah<|gc O q (fun A9 q=>?_) fun A9 q=>?_
 ·refine aj<|aw<|ah<|ai ?_
  obtain⟨x8,h9,q⟩:=ab q;refine rS<|cM<|cP (oX W (dI O) O O h9)<|cR O dx<|cA<|cA<|ak 7340258 O ?_
  refine rS<|cI<|ak 7340514 O ?_
  refine ah<|rS<|cM<|cJ dU O<|cN<|ak 946864610 O ?_
  refine ai<|jj [1,6,7,20,21,22,27,28] O (σ:=ard Int×Int×Int) (fun Ga=>[(5,.buf 332 1 (lT (TI .u64) Ga.1)),(8,.val (TI .u64 Ga.2.1)),(29,.val (TiZ Ga.2.2))]) q O (fun k11 Ga q=>?_)
  refine rS<|cL O O<|ak 2020606434 O ?_
  refine ah<|gc O q (fun JT q=>?_) fun JT q=>?_
  ·refine aj<|aw<|ah<|ai ?_
   obtain⟨iW,nJ,q⟩:=ab q;refine rS<|cM<|cP (oX W (dI O) O O nJ)<|cR O dx<|cA<|cA<|ak 946866146 O ?_
   obtain⟨kd,S,q⟩:=ab q;refine rS<|cM<|cM<|cC (Lt S) O<|cZ<|cE<|cE<|cA<|cA<|ak 946871266 O ?_
   refine rS<|cI<|ak 946871266 O ?_
   obtain⟨iP,T,ju,Z,kQ,wb,kP,wP,q⟩:=b4 q;refine rS<|cM<|cQ<|cM<|cM<|cP (bR (aT O) (aT O) T)<|cP (dK W O O (aT O) Z)<|cP (og (f:=(TI .u64)) (fun _=>O) O O (bF wb) dx)<|cP (Ad (Bs wP) (aJ.cons (aT O) (aJ.cons (aT O) (aJ.cons aI aJ.nil))))<|cZ<|cE<|cE<|cO (oA O)<|cA<|ak 946879458 O ?_
   refine rS<|cM<|cM<|cP (uB (aT O) (aT O))<|cO (oA O)<|ak 946871266 O ?_
   obtain⟨nZ,Ba,q⟩:=ab q;refine rS<|cM<|cM<|cP (Ad (Bs Ba) (aJ.cons (aT O) (aJ.cons (aT O) (aJ.cons aI aJ.nil))))<|cZ<|cE<|cE<|cO (oA O)<|cA<|ak 946879202 O ?_
   obtain⟨oN,CP,Ax,IM,vH,Fh,q⟩:=b3 q;refine rK<|cQ<|cM<|cM<|cP (bR (aT O) (aT O) CP)<|cM<|cM<|cM<|cP (uB (aT O) (aT O))<|cP (dK W O O (aT O) IM)<|cS (o8 (f:=(TI .u64)) (fun _=>O) O O (bF Fh) (aT O) dx)<|cA<|ak 946864610 O (aw ?_)
   obtain⟨xd,Gu,q⟩:=ab q;exact rK<|cH O Gu<|cO (oM O)<|ak 946864610 O (cm q O)
  ·refine aN (aw ?_);obtain⟨sK,Gt,xc,JV,sf,Gs,q⟩:=b3 q;refine rK<|cQ<|cM<|cM<|cJ dU O<|cP (bR (aT O) (aT O) Gt)<|cM<|cP (dK W O O (aT O) JV)<|cS (o8 (f:=(TI .u64)) (fun _=>O) O O (bF Gs) (aT O) dx)<|ak 7340066 O (aw ?_)
   obtain⟨AF,Li,q⟩:=ab q;exact rK<|cH O Li<|cO (oM O)<|ak 7340066 O (cm q O)
 ·refine aN (aw ?_);obtain⟨AE,Pr,q⟩:=ab q;refine rS<|cQ<|cG (ij (t:=5) O)<|cG (jL (s:=78) O O)<|cC (oZ Pr) O<|cA<|cF [4] O ?_
  cases q;exact an (r1 O)
def rJ{a0 a1 r}(q:mC a0 a1=some r):al prog 218 [aY a0,(TL (TI .u64)) a1] (.vs [aZ r]):=by
 refine c7 func218 O ntmps218 (by kernel_rfl) fun w0 H0=>rS<|cT gv<|ak 19 O<|ah<|ai<|rS<|cM<|cJ dU O<|cP (df (aT O) aI)<|cA<|ak 51 O<|gc O q (fun hb1 q=>?_) fun hb1 q=>?_
 ·refine rS<|cP (bB gv ur O)<|cs O O O m<|cF [4] O ?_
  cases q;exact an (q1 O m)
 ·obtain⟨x2,h3,q⟩:=aH q;refine rS<|cM<|cJ dU O<|cP (df (aT O) aI)<|cM<|gV O O (ov 1 O on) (fun rW=>oM O)<|gV O O (oo 15 O id on) (fun hg2=>kS W (dI O) (aT O) aI (h3 hg2))<|gV O O (oo 16 O id on) (fun P=>aU (aT O) dx)<|gV O O (oo 17 O id on) (fun wk=>yc (aT O) aI)<|cP (dh (aT O) O je)<|cM<|gV O O (ov 0 O on) (fun Az=>oM O)<|cP (dh (aT O) O je)<|cA<|ak 1043 O<|gc O q (fun Lf q=>?_) fun Lf q=>?_
  ·obtain⟨x5,h6,x7,h8,q⟩:=b2 q;refine rS<|cM<|cP (kS W (dI O) (aT O) aI h6)<|cR O dx<|cP (vQ EO Ky (aT O))<|cP (Eo (aT O) h8)<|cP (bB gv ur O)<|cs O O O m<|cF [4] O ?_
   cases q;exact an (q1 O m)
  ·obtain⟨x9,kG,q⟩:=aH q;refine rS<|cM<|cJ dU O<|cP (df (aT O) aI)<|cM<|gV O O (ov 1 O on) (fun CL=>oM O)<|gV O O (oo 34 O id on) (fun JQ=>kS W (dI O) (aT O) aI (kG JQ))<|gV O O (oo 35 O id on) (fun OQ=>aU (aT O) dx)<|gV O O (oo 36 O id on) (fun Pn=>yc (aT O) aI)<|cP (dh (aT O) O je)<|cA<|cF [0,1,4,29] O<|gc O q (fun JU q=>?_) fun JU q=>?_
   ·obtain⟨fp,kU,q⟩:=ab q;refine rS<|cM<|cP (kS W (dI O) (aT O) aI kU)<|cR O dx<|cP (vQ EO Ky (aT O))<|cP (bB gv ur O)<|cs O O O m<|cF [4] O ?_
    cases q;exact an (q1 O m)
   ·refine rS<|cM<|cA<|cF [1,4,44] O<|gc O q (fun R4 q=>?_) fun R4 q=>?_
    ·obtain⟨mu,q⟩:=rE q;refine rS<|cM<|cP (DB gv ur (iy.cons (i:=0) aI O O (iy.cons (i:=1) ((aT O).imp (UM (not_true mu))) O O iy.nil)))<|cs O O O m<|cF [4] O ?_
     cases q;exact an (q1 O m)
    ·refine aj (aw ?_);obtain⟨S,q⟩:=rE q;refine rS<|cM<|cP (DB gv ur (iy.cons (i:=0) aI O O (iy.cons (i:=1) ((aT O).imp (UM (not_true S))) O O iy.nil)))<|cs O O O m<|cF [4] O ?_
     cases q;exact an (q1 O m)
def vd{a0 a1 r}(q:mD a0 a1=some r):al prog 142 [aZ a0,aZ a1] (.vs [aZ r]):=by
 refine c7 func142 O ntmps142 (by kernel_rfl) fun w0 H0=>rS<|cX<|cX<|cT gv<|ak 28 O<|ah<|rS<|jg 1 O nI O yJ<|cP (qo dU (aT O))<|cM<|gV O O (ov 3 O on) (fun rW=>a8 O nI)<|gV O O (oo 15 O id (ov 3 O on)) (fun hg2=>oP 1 O O yJ)<|gV O O (oo 16 O id on) (fun P=>qo dU (aT O))<|cP (dh (aT O) O je)<|ak 262172 O<|uU [2,3] O (α:=(Int×ard Int)) (fun s1=>[(4,.own 85 (aZ s1))]) q (fun k2 q=>?_) (fun s1 q=>?_)
 ·refine gc O q (fun hb3 q=>?_) fun hb3 q=>?_
  ·obtain⟨x4,h5,x6,h7,x8,h9,q⟩:=b3 q;refine gE 12 mixed<|dQ 0 O gz O C<|dP [21] O (oC (F1 h5) O)<|dQ 0 O gz O C<|dP [24] O (oC (F1 h7) O)<|dP [22,25] O (oC (Lt h9) O)<|dP [26] O (vP O)<|dP [19] O (dW O O)<|dP [19] O (dW O O)<|dP [27] O (oA O)<|dP [28] O (oA O)<|dN<|dE [2,3,4,5,6] O (by kernel_rfl)<|cD<|rS<|cM<|cP (df (aT O) aI)<|cM<|gV O O (ov 6 O on) (fun wk=>oM O)<|gV O O (oo 32 O id on) (fun Az=>yc (aT O) aI)<|cP (dh (aT O) O je)<|cF [2,3,4,6,34] O ?_
   refine gc O q (fun wO q=>?_) fun wO q=>?_
   ·refine ah<|rS<|jg 0 O gz O C<|cP (eC (aT O) aI)<|jg 0 O gz O C<|cP (eC (aT O) aI)<|cP (Re EM (aT O) (aT O))<|cF [4,6,41] O<|gc O q (fun JU q=>?_) fun JU q=>?_
    ·obtain⟨fp,kU,q⟩:=ab q;refine rS<|cM<|cP (vQ EO Ky (aT O))<|cP (Eo (aT O) kU)<|cP (bB gv ur O)<|cs O O O m<|cF [4] O ?_
     cases q;exact an (q1 O m)
    ·refine aj<|aw<|rS<|cM<|cP (vQ EO Ky (aT O))<|cP (bB gv ur O)<|cs O O O m<|cF [4] O ?_
     cases q;exact an (q1 O m)
   ·exact aj (cm q O)
  ·exact aj (cm q O)
 ·refine aw ?_;obtain⟨gp,mu,q⟩:=ab q;refine rS<|cU O m<|cC (iH mu) O<|cZ<|cE<|cE<|cA<|cA<|ak 408 O ?_
  obtain⟨gS,Q,q⟩:=ab q;refine rS<|cU O m<|cC (iH Q) O<|cZ<|cE<|cE<|cA<|cA<|ak 1936 O ?_
  obtain⟨iZ,qi,kR,h21,q⟩:=b2 q;refine rS<|cM<|cM<|cP (Re EM (aT O) (aT O))<|cM<|cM<|cC (MD qi) O<|cC (rJ h21) O<|cs O O O m<|cF [4] O ?_
  cases q;exact an (q1 O m)
def O1{a0 a1 r}(q:qZ a0 a1=some r):al prog 235 [aZ a0,TiZ a1] (.vs [aZ r]):=by
 refine c7 func235 O ntmps235 (by kernel_rfl) fun w0 H0=>rS<|cX<|cT gv<|ak 22 O ?_
 obtain⟨x1,h2,q⟩:=ab q;refine rS<|cC (C9 h2) O<|cT gv<|cs O O O m<|ak 54 O<|ah<|ai<|jj [4] O (σ:=Int×(Int×ard Int)×(Int×ard Int)) (fun s3=>[(1,.val (TiZ s3.1)),(2,.own 85 (aZ s3.2.1)),(5,.own 85 (aZ s3.2.2))]) q O (fun k4 s3 q=>?_)
 refine ah<|rS<|cM<|cP (cq (aT O) aI)<|ak 310 O<|gc O q (fun CN q=>?_) fun CN q=>?_
 ·refine aj<|aw<|ah<|uU [1,4] O (α:=(Int×ard Int)×(Int×ard Int)) (fun s6=>[(2,.own 85 (aZ s6.1)),(5,.own 85 (aZ s6.2))]) q (fun k7 q=>?_) (fun s6 q=>?_)
  ·refine ai<|ah<|rS<|cM<|cP (Ro (aT O) aI)<|cP (df (aT O) aI)<|ak 8246 O<|uU [1,2,4] O (α:=(Int×ard Int)) (fun s8=>[(5,.own 85 (aZ s8))]) q (fun k9 q=>?_) (fun s8 q=>?_)
   ·refine gc O q (fun wO q=>?_) fun wO q=>?_
    ·obtain⟨iM,qC,q⟩:=ab q;exact rK<|cU O m<|cU O m<|cC (vd qC) O<|cs O O O m<|ak 54 O (cm q O)
    ·exact aj (cm q O)
   ·refine aw ?_;refine rS<|cM<|cP (cq (aT O) aI)<|ak 262198 O<|gc O q (fun N3 q=>?_) fun N3 q=>?_
    ·obtain⟨gp,mu,q⟩:=ab q;exact rK<|cU O m<|cU O m<|cC (vd mu) O<|cs O O O m<|ak 54 O (cm q O)
    ·exact aj (cm q O)
  ·refine aw ?_;obtain⟨gS,Q,q⟩:=ab q;exact rK<|cM<|cP (Gc (aT O) aI Q)<|cO (oA O)<|ak 54 O (cm q O)
 ·refine aN<|aw<|rS<|cU O m<|cs O O O m<|cF [4] O ?_
  cases q;exact an (q1 O m)
def MF{a0 a1 r}(q:pk a0 a1=some r):al prog 219 [(TL (TI .u64)) a0,(TL (TI .u64)) a1] (.vs [(TL (TI .u64)) r]):=by
 unfold pk at q;refine c7 func219 O ntmps219 (by kernel_rfl) fun w0 H0=>?_
 refine rS<|cP (aA (Arg.nn (f:=(TI .u64))))<|ak 3 O ?_
 refine ah<|rS<|cM<|cJ dU O<|cM<|cJ dU O<|cL O O<|ak 8195 O ?_
 refine DV (α:=ard Int×ard Int) (fun s1=>[(0,.val (TL (TI .u64) s1.1)),(1,.val (TL (TI .u64) s1.2))]) q (fun k2 q=>?_) (fun s1 q=>?_)
 ·refine gc O q (fun hb3 q=>?_) fun hb3 q=>?_
  ·exact rK<|cM<|cM<|cO (oA O)<|cO (oA O)<|ak 3 O (cm q O)
  ·exact aj (cm q O)
 ·refine aw ?_;obtain⟨x4,h5,x6,h7,q⟩:=b2 q;refine rS<|cM<|cJ dU O<|cH O h5<|cP (FH (TI .u64) Zn w9 O (aT O) (aT O) h7)<|cS (bt O O (bU O) _ (Or.inl O))<|ak 35 O ?_
  refine rS<|cI<|ak 99 O ?_
  refine ah<|rS<|cM<|cJ dU O<|cN<|ak 6291555 O ?_
  refine ai<|jj [0,1,21] O (σ:=ard Int×Int×Int) (fun s8=>[(5,.buf 332 1 (lT (TI .u64) s8.1)),(6,.val (TI .u64 s8.2.1)),(22,.val (TiZ s8.2.2))]) q O (fun k9 s8 q=>?_)
  refine rS<|cL O O<|ak 14680163 O ?_
  refine ah<|gc O q (fun wO q=>?_) fun wO q=>?_
  ·refine aj<|aw<|ah<|ai<|rS<|cM<|cA<|ak 6291683 O ?_
   refine rS<|cI<|ak 6291939 O ?_
   refine ah<|rS<|cM<|cM<|cJ dU O<|cL O O<|ak 274727395 O ?_
   refine uU [0,1,5,6,7,21,22] O (α:=Int) (fun Jp=>[(8,.val (TI .u64 Jp))]) q (fun Md q=>?_) (fun Jp q=>?_)
   ·refine gc O q (fun N3 q=>?_) fun N3 q=>?_
    ·obtain⟨gp,mu,q⟩:=ab q;exact rK<|cM<|cM<|cP (oX W (dI O) O O mu)<|cR O dx<|cO (oA O)<|ak 6291939 O (cm q O)
    ·exact aj (cm q O)
   ·refine aw ?_;obtain⟨gS,Q,iZ,qi,kR,h21,my,Cf,q⟩:=b4 q;refine rK<|cQ<|cM<|cM<|cM<|cP (oX W (dI O) O O Q)<|cR O dx<|cM<|cM<|cP (Ad (Bs qi) (aJ.cons (aT O) (aJ.cons (aT O) (aJ.cons (aT O) aJ.nil))))<|cZ<|cE<|cE<|cP (dK W O O (aT O) h21)<|cS (o8 (f:=(TI .u64)) (fun _=>O) O O (bF Cf) (aT O) dx)<|cO (oA O)<|ak 6291555 O (aw ?_)
    obtain⟨sE,Gv,q⟩:=ab q;exact rK<|cH O Gv<|cO (oM O)<|ak 6291555 O (cm q O)
  ·refine aN (aw ?_);obtain⟨yY,JX,oY,Fi,q⟩:=b2 q;refine rS<|cQ<|cM<|cJ dU O<|cM<|cP (dK W O O (aT O) JX)<|cS (o8 (f:=(TI .u64)) (fun _=>O) O O (bF Fi) (aT O) dx)<|cF [5] O ?_
   obtain⟨qE,CO,q⟩:=ab q;refine rS<|cQ<|cG (ij (t:=5) O)<|cG (jL (s:=52) O O)<|cC (oZ CO) O<|cA<|cF [4] O ?_
   cases q;exact an (r1 O)
def xN{a0 a1 r}(q:lM a0 a1=some r):al prog 220 [(TL (TI .u64)) a0,(TL (TI .u64)) a1] (.vs [TiZ r]):=by
 refine c7 func220 O ntmps220 (by kernel_rfl) fun w0 H0=>rS<|cI<|ak 3 O<|ah<|rS<|cM<|cJ dU O<|cM<|cJ dU O<|cP (da (aT O) (aT O))<|ak 1027 O<|gc O q (fun hb1 q=>?_) fun hb1 q=>?_
 ·refine ah<|rS<|cM<|cJ dU O<|cM<|cJ dU O<|cL O O<|cF [15] O<|gc O q (fun hb2 q=>?_) fun hb2 q=>?_
  ·refine rS<|cI<|cF [4] O ?_
   cases q;exact an (r1 O)
  ·refine aj<|aw<|rS<|cI<|cF [4] O ?_
   cases q;exact an (r1 O)
 ·refine aj<|aw<|ah ?_
  obtain⟨x3,h4,q⟩:=ab q;refine rS<|cM<|cJ dU O<|cP (bn (aT O) aI h4)<|cA<|ak 35 O<|ai<|jj [0,1] O (σ:=Int) (fun s5=>[(5,.val (TiZ s5))]) q O (fun k6 s5 q=>?_)
  refine ah<|rS<|cM<|cP (jG (aT O) aI)<|ak 1048611 O<|gc O q (fun A9 q=>?_) fun A9 q=>?_
  ·refine aj<|aw<|ah<|ai ?_
   obtain⟨x8,h9,dz,jv,q⟩:=b2 q;refine gE 9 mixed<|dP [0] O (oM O)<|dP [5] O (oM O)<|dP [23,24] O (oX W (dI O) O O h9)<|dP [25] O (aU (aT O) dx)<|dP [1] O (oM O)<|dP [5] O (oM O)<|dP [27,28] O (oX W (dI O) O O jv)<|dP [29] O (aU (aT O) dx)<|dP [26,30] O (da (aT O) (aT O))<|dN<|dE [0,1,5,31] O (by kernel_rfl)<|cD<|gc O q (fun JT q=>?_) fun JT q=>?_
   ·refine ah ?_;obtain⟨iW,nJ,kd,S,q⟩:=b2 q;refine gE 9 mixed<|dP [0] O (oM O)<|dP [5] O (oM O)<|dP [32,33] O (oX W (dI O) O O nJ)<|dP [34] O (aU (aT O) dx)<|dP [1] O (oM O)<|dP [5] O (oM O)<|dP [36,37] O (oX W (dI O) O O S)<|dP [38] O (aU (aT O) dx)<|dP [35,39] O (eC (aT O) (aT O))<|dN<|dE [40] O (by kernel_rfl)<|cD<|gc O q (fun JS q=>?_) fun JS q=>?_
    ·refine rS<|cI<|cF [4] O ?_
     cases q;exact an (r1 O)
    ·refine aj<|aw<|rS<|cI<|cF [4] O ?_
     cases q;exact an (r1 O)
   ·refine aj (aw ?_);obtain⟨iZ,qi,q⟩:=ab q;exact rK<|cM<|cP (bn (aT O) aI qi)<|cO (oA O)<|ak 35 O (cm q O)
  ·refine aN<|aw<|rS<|cI<|cF [4] O ?_
   cases q;exact an (r1 O)
def C8{a0 a1 r}(q:pj a0 a1=some r):al prog 221 [(TL (TI .u64)) a0,(TL (TI .u64)) a1] (.vs [(TL (TI .u64)) r]):=by
 refine c7 func221 O ntmps221 (by kernel_rfl) fun w0 H0=>?_
 refine rS<|cP (aA (Arg.nn (f:=(TI .u64))))<|ak 3 O ?_
 obtain⟨x1,h2,q⟩:=ab q;refine rS<|cM<|cJ dU O<|cP (FH (TI .u64) Zn w9 O (aT O) (aT O) h2)<|cS (bt O O (bU O) _ (Or.inl O))<|ak 35 O ?_
 refine rS<|cI<|ak 99 O ?_
 refine ah<|rS<|cM<|cJ dU O<|cN<|ak 24675 O ?_
 refine ai<|jj [0,1,13] O (σ:=ard Int×Int×Int) (fun s3=>[(5,.buf 332 1 (lT (TI .u64) s3.1)),(6,.val (TI .u64 s3.2.1)),(14,.val (TiZ s3.2.2))]) q O (fun k4 s3 q=>?_)
 refine rS<|cL O O<|ak 57443 O ?_
 refine ah<|gc O q (fun CN q=>?_) fun CN q=>?_
 ·refine aj<|aw<|ah<|ai<|rS<|cM<|cA<|ak 24803 O ?_
  refine rS<|cI<|ak 25059 O ?_
  refine ah<|rS<|cM<|cM<|cJ dU O<|cL O O<|ak 1073635 O ?_
  refine uU [0,1,5,6,7,13,14] O (α:=Int) (fun s6=>[(8,.val (TI .u64 s6))]) q (fun k7 q=>?_) (fun s6 q=>?_)
  ·refine gc O q (fun Y q=>?_) fun Y q=>?_
   ·obtain⟨x9,kG,q⟩:=ab q;exact rK<|cM<|cM<|cP (oX W (dI O) O O kG)<|cR O dx<|cO (oA O)<|ak 25059 O (cm q O)
   ·exact aj (cm q O)
  ·refine aw ?_;obtain⟨iM,qC,iW,nJ,kd,S,iP,T,q⟩:=b4 q;refine rK<|cQ<|cM<|cM<|cM<|cP (oX W (dI O) O O qC)<|cR O dx<|cM<|cM<|cP (Ad (Q4 nJ) (aJ.cons (aT O) (aJ.cons (aT O) (aJ.cons (aT O) aJ.nil))))<|cZ<|cE<|cE<|cP (dK W O O (aT O) S)<|cS (o8 (f:=(TI .u64)) (fun _=>O) O O (bF T) (aT O) dx)<|cO (oA O)<|ak 24675 O (aw ?_)
   obtain⟨ju,Z,q⟩:=ab q;exact rK<|cH O Z<|cO (oM O)<|ak 24675 O (cm q O)
 ·refine aN (aw ?_);obtain⟨kQ,wb,q⟩:=ab q;refine rS<|cQ<|cG (ij (t:=5) O)<|cG (jL (s:=39) O O)<|cC (oZ wb) O<|cA<|cF [4] O ?_
  cases q;exact an (r1 O)
def ve{a0 a1 r}(q:mE a0 a1=some r):al prog 140 [aZ a0,aZ a1] (.vs [aZ r]):=by
 refine c7 func140 O ntmps140 (by kernel_rfl) fun w0 H0=>rS<|cX<|cX<|cT gv<|ak 28 O<|ah<|rS<|jg 1 O nI O yJ<|cP (qo dU (aT O))<|cM<|gV O O (ov 3 O on) (fun rW=>a8 O nI)<|gV O O (oo 14 O id (ov 3 O on)) (fun hg2=>oP 1 O O yJ)<|gV O O (oo 15 O id on) (fun P=>qo dU (aT O))<|cP (dh (aT O) O je)<|ak 131100 O<|uU [2,3] O (α:=(Int×ard Int)) (fun s1=>[(4,.own 85 (aZ s1))]) q (fun k2 q=>?_) (fun s1 q=>?_)
 ·refine gc O q (fun hb3 q=>?_) fun hb3 q=>?_
  ·refine rS<|jg 0 O gz O C<|jg 0 O gz O C<|cP (uB (aT O) (aT O))<|cA<|ak 60 O<|rS<|cM<|jg 0 O gz O C<|cP (cq (aT O) (aT O))<|jg 0 O gz O C<|cP (cq (aT O) aI)<|cP (Rm EM (aT O) (aT O))<|ak 1073741884 O<|gc O q (fun Lf q=>?_) fun Lf q=>?_
   ·refine rS<|cM<|cP (bB gv ur O)<|cs O O O m<|cF [4] O ?_
    cases q;exact an (q1 O m)
   ·exact aj (cm q O)
  ·exact aj (cm q O)
 ·refine aw ?_;obtain⟨x5,h6,q⟩:=ab q;refine rS<|cU O m<|cC (iH h6) O<|cZ<|cE<|cE<|cA<|cA<|ak 216 O ?_
  obtain⟨x7,h8,q⟩:=ab q;refine rS<|cU O m<|cC (iH h8) O<|cZ<|cE<|cE<|cA<|cA<|ak 976 O<|ah<|ai<|rS<|cM<|cM<|cP (Rm EM (aT O) (aT O))<|cA<|cF [4,6,7,8,9,43] O<|gc O q (fun N0 q=>?_) fun N0 q=>?_
  ·obtain⟨dz,jv,fp,kU,q⟩:=b2 q;refine rS<|cM<|cM<|cM<|cC (MF jv) O<|cC (rJ kU) O<|cs O O O m<|cF [4] O ?_
   cases q;exact an (q1 O m)
  ·obtain⟨gp,mu,q⟩:=ab q;refine rS<|cM<|cM<|cC (xN mu) O<|cP (jG (aT O) aI)<|cA<|cF [4,6,7,8,9,52] O<|gc O q (fun Gr q=>?_) fun Gr q=>?_
   ·obtain⟨iP,T,ju,Z,q⟩:=b2 q;refine rS<|cM<|cM<|cM<|cC (C8 T) O<|cC (rJ Z) O<|cs O O O m<|cF [4] O ?_
    cases q;exact an (q1 O m)
   ·refine aj (aw ?_);obtain⟨kQ,wb,kP,wP,q⟩:=b2 q;refine rS<|cM<|cM<|cM<|cC (C8 wb) O<|cC (rJ wP) O<|cs O O O m<|cF [4] O ?_
    cases q;exact an (q1 O m)
end
end Trn
