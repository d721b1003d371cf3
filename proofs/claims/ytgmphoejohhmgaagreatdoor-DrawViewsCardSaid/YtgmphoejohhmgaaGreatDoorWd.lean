/-
  Part of the proof of DrawViews.
-/
import Derived.Test.YtgmphoejohhmgaaGreatDoorWc
set_option maxRecDepth 100000
set_option maxHeartbeats 20000000
set_option linter.all false
open Go Go.RowKit Go.Proofs Go.Proofs.Tryz
namespace Trn
section
variable[D:DR]
def E4{a0 r}(q:w4 a0=some r):al prog 209 [(TL bz) a0] (.vs [TiZ r]):=by
 refine c7 func209 O ntmps209 (by kernel_rfl) fun w0 H0=>rS<|cI<|ak 1 O<|ah<|rS<|cM<|cJ abY O<|cN<|ak 448 O<|ai<|jj [6,7] O (σ:=Int) (fun s1=>[(8,.val (TiZ s1))]) q O (fun k2 s1 q=>?_)
 refine rS<|cL O O<|ak 960 O<|ah<|gc O q (fun hb3 q=>?_) fun hb3 q=>?_
 ·refine aj<|aw<|ah<|ai ?_
  obtain⟨x4,h5,q⟩:=ab q;refine rS<|cP (oX agf (dI O) O O h5)<|cR O lO<|cT pN<|cs O O O lO<|ak 464 O ?_
  obtain⟨x6,h7,q⟩:=ab q;refine rS<|cU O lO<|cC (GY h7) O<|cA<|ak 480 O<|rS<|cM<|cP (da (aT O) aI)<|ak 33248 O<|gc O q (fun Y q=>?_) fun Y q=>?_
  ·refine rS<|cM<|cA<|ak 4 O ?_
   cases q;exact an (r1 O)
  ·refine aj (aw ?_);obtain⟨x9,kG,q⟩:=ab q;exact rK<|cH O kG<|cO (oM O)<|ak 448 O (cm q O)
 ·refine aN<|aw<|rS<|cI<|ak 4 O ?_
  cases q;exact an (r1 O)
def Cv{a0 r}(q:ry a0=some r):al prog 347 [TiZ a0] (.vs [aY r]):=by
 unfold ry at q;refine c7 func347 O ntmps347 (by kernel_rfl) fun w0 H0=>rS<|cB<|ak 1 O<|rS<|cM<|cM<|cP (da (aT O) (aT O))<|cA<|ak 4 O ?_
 cases q;exact an (r1 O)
def sP{a0 a1 r}(q:oH a0 a1=some r):al prog 282 [TiZ a0,TiZ a1] (.vs [TiZ r]):=by
 refine c7 func282 O ntmps282 (by kernel_rfl) fun w0 H0=>rS<|cI<|ak 3 O ?_
 obtain⟨x1,h2,q⟩:=ab q;refine rS<|cM<|cC (Cv h2) O<|cA<|ak 35 O ?_
 obtain⟨x3,h4,q⟩:=ab q;refine rS<|cM<|cC (Cv h4) O<|cA<|ak 99 O<|ah<|rS<|cM<|ak 2115 O<|gc O q (fun CN q=>?_) fun CN q=>?_
 ·refine ah<|rS<|cM<|cF [12] O<|gc O q (fun Pp q=>?_) fun Pp q=>?_
  ·refine rS<|cI<|cF [4] O ?_
   cases q;exact an (r1 O)
  ·refine aj<|aw<|rS<|cI<|cF [4] O ?_
   cases q;exact an (r1 O)
 ·refine aj<|aw<|ah<|rS<|cM<|ak 8195 O<|gc O q (fun A9 q=>?_) fun A9 q=>?_
  ·refine rS<|cI<|cF [4] O ?_
   cases q;exact an (r1 O)
  ·refine aj<|aw<|ah<|rS<|cM<|cM<|cL O O<|ak 65539 O<|gc O q (fun Y q=>?_) fun Y q=>?_
   ·refine rS<|cI<|cF [4] O ?_
    cases q;exact an (r1 O)
   ·refine aj<|aw<|ah<|rS<|cM<|cM<|cP (cq (aT O) (aT O))<|cF [19] O<|gc O q (fun N0 q=>?_) fun N0 q=>?_
    ·refine rS<|cI<|cF [4] O ?_
     cases q;exact an (r1 O)
    ·refine aj<|aw<|rS<|cI<|cF [4] O ?_
     cases q;exact an (r1 O)
def xh{a0 r}(q:tt a0=some r):al prog 208 [(TL TiZ) a0] (.vs [TiZ r]):=by
 refine c7 func208 O ntmps208 (by kernel_rfl) fun w0 H0=>rS<|cI<|ak 1 O<|rS<|cI<|ak 9 O<|ah<|rS<|cM<|cJ dF O<|cN<|ak 456 O<|ai<|jj [3,6,7] O (σ:=Int) (fun s1=>[(8,.val (TiZ s1))]) q O (fun k2 s1 q=>?_)
 refine rS<|cL O O<|ak 968 O<|ah<|gc O q (fun hb3 q=>?_) fun hb3 q=>?_
 ·refine aj<|aw<|ah<|ai ?_
  obtain⟨x4,h5,q⟩:=ab q;refine rS<|cP (oX eT (dI O) O O h5)<|cR O C<|cA<|ak 488 O<|rS<|cM<|cM<|cP (da (aT O) (aT O))<|ak 16872 O<|gc O q (fun Pp q=>?_) fun Pp q=>?_
  ·refine rS<|cM<|cA<|ak 4 O ?_
   cases q;exact an (r1 O)
  ·refine aj (aw ?_);obtain⟨x7,h8,q⟩:=ab q;exact rK<|cH O h8<|cO (oM O)<|ak 456 O (cm q O)
 ·refine aN<|aw<|rS<|cM<|cA<|ak 4 O ?_
  cases q;exact an (r1 O)
def C3{a0 a1 r}(q:yk a0 a1=some r):al prog 210 [zP a0,zP a1] (.vs [TiZ r]):=by
 refine c7 func210 O ntmps210 (by kernel_rfl) fun w0 H0=>rS<|cX<|cX<|cI<|ak 12 O ?_
 obtain⟨x1,h2,x3,h4,x5,h6,x7,h8,q⟩:=b4 q;refine gE 18 mixed<|dP [2] O (iO O sc O)<|dP [5,2] O (oP 0 O O C)<|dP [3] O (iO O sc O)<|dP [7,3] O (oP 0 O O C)<|dP [6,8] O (oC (sP h2) O)<|dP [2] O (iO O sc O)<|dP [10,2] O (oP 1 O O C)<|dP [3] O (iO O sc O)<|dP [12,3] O (oP 1 O O C)<|dP [11,13] O (oC (sP h4) O)<|dP [2] O (iO O sc O)<|dP [15,2] O (oP 2 O O C)<|dP [3] O (iO O sc O)<|dP [17,3] O (oP 2 O O C)<|dP [16,18] O (oC (sP h6) O)<|dP [9,14,19] O (bS oW rZ O O)<|dP [20] O (oC (xh h8) O)<|dP [21] O (oA O)<|dN<|dE [4] O (by kernel_rfl)<|cD ?_
 cases q;exact an (r1 O)
def aea{a0 r}(q:Xu a0=some r):al prog 67 [TiZ a0] (.vs [aX r]):=by
 refine c7 func67 O ntmps67 (by kernel_rfl) fun w0 H0=>rS<|cT V<|ak 5 O ?_
 obtain⟨x1,h2,x3,h4,q⟩:=b2 q;refine rS<|cM<|cC (sOf h2) O<|cC (Ni h4) O<|cs O O O d<|ak 4 O ?_
 cases q;exact an (q1 O d)
def Lq{x:Int}{r:Rat}(hm:qF x=some r):al prog 67 [TI .i64 x] (.vs [aX r]):=by
 refine aea ?_;unfold qF at hm;unfold Xu aOf;cases h:aF x with
 |none=>rw[h] at hm;cases hm
 |some y=>rw[h] at hm;exact hm
def CZ{a0 a1 a2 r}(q:A1 a0 a1 a2=some r):al prog 199 [TiZ a0,TiZ a1,TiZ a2] (.vs [ar r]):=by
 refine c7 func199 O ntmps199 (by kernel_rfl) fun w0 H0=>rS<|cT bY<|ak 71 O ?_
 obtain⟨x1,h2,x3,h4,x5,h6,q⟩:=b3 q;refine rS<|cM<|cC (Lq h2) O<|cM<|cC (Lq h4) O<|cM<|cC (Lq h6) O<|cP (bA rl M O O)<|cs O O O g<|cF [6] O ?_
 cases q;exact an (q1 O g)
def xM{a0 r}(q:tf a0=some r):al prog 119 [bz a0] (.vs [bg r]):=by
 refine c7 func119 O ntmps119 (by kernel_rfl) fun w0 H0=>rS<|cX<|cT iA<|ak 6 O ?_
 obtain⟨x1,h2,x3,h4,q⟩:=b2 q;refine gE 15 mixed<|dP [1] O (a8 O pD)<|dP [3,1] O (cg O sc aI (by decide) (by decide))<|dP [4,1] O (b9 O O (aP.trans (aP.agg (i:=0) O O) O (aP.agg (i:=0) O O)) C)<|dP [1] O (a8 O pD)<|dP [6,1] O (cg O sc aI (by decide) (by decide))<|dP [7,1] O (b9 O O (aP.trans (aP.agg (i:=0) O O) O (aP.agg (i:=1) O O)) C)<|dP [1] O (a8 O pD)<|dP [9,1] O (cg O sc aI (by decide) (by decide))<|dP [10,1] O (b9 O O (aP.trans (aP.agg (i:=0) O O) O (aP.agg (i:=2) O O)) C)<|dP [5,8,11] O (oC (CZ h2) O)<|dQ 1 O Ob O X<|dP [14] O (oC (jT h4) O)<|dP [12,15] O (bB CW Ho O)<|dS [2,16] O (ds O O O fI)<|dN<|dE [2] O (by kernel_rfl)<|cD ?_
 cases q;exact an (q1 O fI)
def QG{a0 r}(q:H6 a0=some r):al prog 283 [(TL bz) a0] (.vs [(TL bg) r]):=by
 refine c7 func283 O ntmps283 (by kernel_rfl) fun w0 H0=>rS<|cP (ba bg 212 16)<|ak 1 O<|rS<|cP (ba bg 212 16)<|ak 9 O<|ah<|rS<|cM<|cJ abY O<|cN<|ak 456 O<|ai<|jj [6,7] O (σ:=(ard (V3×Rat))×Int) (fun s1=>[(3,.buf 212 16 (lT bg s1.1)),(8,.val (TiZ s1.2))]) q O (fun k2 s1 q=>?_)
 refine rS<|cL O O<|ak 968 O<|ah<|gc O q (fun hb3 q=>?_) fun hb3 q=>?_
 ·refine aj<|aw<|ah<|ai ?_
  obtain⟨x4,h5,q⟩:=ab q;refine rS<|cP (oX agf (dI O) O O h5)<|cR O lO<|cT pN<|cs O O O lO<|ak 488 O ?_
  obtain⟨x6,h7,x8,h9,q⟩:=b2 q;refine rK<|cQ<|cU O lO<|cC (xM h7) O<|cP (bS iA JZ O O)<|cS (dp mq J4 (dI O) O O (aT O) h9 (bU O))<|cS (bt O O (bU O) _ (Or.inl O))<|ak 456 O (aw ?_)
  obtain⟨dz,jv,q⟩:=ab q;exact rK<|cH O jv<|cO (oM O)<|ak 456 O (cm q O)
 ·refine aN<|aw<|rS<|cQ<|cG (ij (t:=3) O)<|cG (jL (s:=18) O O)<|cA<|ak 4 O ?_
  cases q;exact an (r1 O)
def GZ{a0 r}(q:BL a0=some r):al prog 350 [aX a0] (.vs [aX r]):=by
 refine c7 func350 O ntmps350 (by kernel_rfl) fun w0 H0=>rS<|cX<|cT V<|ak 6 O<|ah ?_
 obtain⟨x1,h2,q⟩:=ab q;refine rS<|cU O d<|cC (ja h2) O<|cP (eC (aT O) aI)<|ak 38 O<|gc O q (fun hb3 q=>?_) fun hb3 q=>?_
 ·obtain⟨x4,h5,q⟩:=ab q;refine rS<|cU O d<|cC (FC h5) O<|cs O O O d<|ak 4 O ?_
  cases q;exact an (q1 O d)
 ·refine aj<|aw<|rS<|cU O d<|cs O O O d<|ak 4 O ?_
  cases q;exact an (q1 O d)
def rF{a0 a1 r}(q:lH a0 a1=some r):al prog 385 [(TL aX) a0,(Fj prog (fun(x:Rat×Rat)=>[aX x.1,aX x.2]) (fun(x:Int)=>[TiZ x])) a1] (.vs [aX r]):=by
 refine c7 func385 O ntmps385 (by kernel_rfl) fun w0 H0=>rS<|cT V<|ak 19 O<|ah<|rS<|cM<|cJ mr O<|cP (eC (aT O) aI)<|ak 531 O<|gc O q (fun hb1 q=>?_) fun hb1 q=>?_
 ·cases q
 ·refine aj (aw ?_);obtain⟨x2,h3,q⟩:=ab q;refine rS<|cM<|cP (kS Dm (dI O) (aT O) aI h3)<|cR O d<|cT V<|cs O O O d<|ak 51 O<|ah<|rS<|cI<|ak 115 O<|ai<|jj [0,1,4] O (σ:=Rat×Int) (fun s4=>[(5,.own 87 (aX s4.1)),(6,.val (TiZ s4.2))]) q O (fun k5 s4 q=>?_)
  refine ah<|rS<|cM<|cM<|cJ mr O<|cL O O<|ak 131187 O<|gc O q (fun Pp q=>?_) fun Pp q=>?_
  ·refine aj<|aw<|ah<|uU [0,1,4,6] O (α:=Rat) (fun s7=>[(5,.own 87 (aX s7))]) q (fun k8 q=>?_) (fun s7 q=>?_)
   ·refine ai ?_;obtain⟨x9,kG,iM,qC,q⟩:=b2 q;refine gE 8 mixed<|dP [1] O (oM O)<|dP [0] O (oM O)<|dP [6] O (oM O)<|dP [21,22] O (oX Dm (dI O) O O kG)<|dP [23] O (aU (aT O) d)<|dP [5] O (ae O d)<|dP [20,24,25] O (qQ O qC (aJ.cons (aT O) (aJ.cons (aT O) aJ.nil)))<|dP [26] O (cq (aT O) aI)<|dN<|dE [0,1,4,5,6,27] O (by kernel_rfl)<|cD<|gc O q (fun N3 q=>?_) fun N3 q=>?_
    ·obtain⟨gp,mu,q⟩:=ab q;exact rK<|cM<|cM<|cP (oX Dm (dI O) O O mu)<|cR O d<|cs O O O d<|ak 115 O (cm q O)
    ·exact aj (cm q O)
   ·refine aw ?_;obtain⟨gS,Q,q⟩:=ab q;exact rK<|cM<|cH O Q<|cO (oA O)<|ak 115 O (cm q O)
  ·refine aN<|aw<|rS<|cU O d<|cs O O O d<|cF [4] O ?_
   cases q;exact an (q1 O d)
def O2{a0 a1 r}(q:vr a0 a1=some r):al prog 160 [aZ a0,aZ a1] (.vs [TiZ r]):=by
 refine c7 func160 O ntmps160 (by kernel_rfl) fun w0 H0=>rS<|cX<|cX<|cI<|ak 12 O<|ah<|rS<|jg 1 O nI O yJ<|cP (qo dU (aT O))<|cM<|gV O O (ov 3 O on) (fun rW=>a8 O nI)<|gV O O (oo 9 O id (ov 3 O on)) (fun hg2=>oP 1 O O yJ)<|gV O O (oo 10 O id on) (fun P=>qo dU (aT O))<|cP (dh (aT O) O je)<|ak 4108 O<|gc O q (fun hb1 q=>?_) fun hb1 q=>?_
 ·refine ah<|ai<|rS<|jg 0 O gz O C<|jg 0 O gz O C<|cL O O<|cA<|ak 8204 O<|gc O q (fun hb2 q=>?_) fun hb2 q=>?_
  ·refine rS<|cI<|cF [4] O ?_
   cases q;exact an (r1 O)
  ·refine rS<|jg 0 O gz O C<|jg 0 O gz O C<|cP (cq (aT O) (aT O))<|cA<|cF [19] O<|gc O q (fun hb3 q=>?_) fun hb3 q=>?_
   ·refine rS<|cI<|cF [4] O ?_
    cases q;exact an (r1 O)
   ·refine aj<|aw<|rS<|cI<|cF [4] O ?_
    cases q;exact an (r1 O)
 ·refine aj (aw ?_);obtain⟨x4,h5,x6,h7,q⟩:=b2 q;refine rS<|cU O m<|cU O m<|cC (Fw h5) O<|cC (mS h7) O<|cA<|cF [4] O ?_
  cases q;exact an (r1 O)
def anh{x y:Int}{r:Int}(hm:adv x y=some r):al prog 160 [mP x,mP y] (.vs [TI .i64 r]):=by
 obtain⟨hb,rfl⟩:=iL hm;obtain⟨h1,h2⟩:=eK hb;exact Z3 (by kernel_rfl) fun r s hr hs=>⟨_,O2 (ae4 hr hs h1 h2),fun _ _ h=>h⟩
def MM{a0 a1 r}(q:yu a0 a1=some r):al prog 80 [aX a0,aX a1] (.vs [TiZ r]):=by
 refine c7 func80 O ntmps80 (by kernel_rfl) fun w0 H0=>rS<|cX<|cX<|cI<|ak 12 O ?_
 obtain⟨x1,h2,x3,h4,x5,h6,q⟩:=b3 q;refine gE 12 mixed<|dQ 0 O nH O m<|dQ 1 O mR O m<|dP [6,8] O (oC (Tf h2) O)<|dQ 0 O nH O m<|dQ 1 O mR O m<|dP [11,13] O (oC (Tf h4) O)<|dP [9,14] O (oC (anh h6) O)<|dP [15] O (oA O)<|dN<|dE [4] O (by kernel_rfl)<|cD ?_
 cases q;exact an (r1 O)
def qN{x y:Rat}{r:Int}(hm:oR x y=some r):al prog 80 [aX x,aX y] (.vs [TI .i64 r]):=by
 obtain⟨hb,rfl⟩:=iL hm;obtain⟨h1,h2⟩:=eK hb;exact MM (acP h1 h2)
def AG{a0 r}(q:uF a0=some r):fF prog 351 [] (.buf 87 4 (lT aX a0)) (.gone) [] [aX r]:=by
 refine uS (N:=8) func351 O ntmps351 (by simp) ai5 O O fun w1 v w0 H0 hk=>?_
 refine lP (sS [0] O) ?_;refine rS<|cT V<|ak 5 O ?_
 obtain⟨x1,h2,x3,h4,x5,h6,q⟩:=b3 q;refine rS<|cQ<|cC (Lq h2) O<|cP (bS V Av O O)<|cS (dp mr Aw (dI O) O O (aT O) h4 (bU O))<|cG (ij (t:=6) O)<|cP (fL (rF h6) (aJ.cons (aT O) (aJ.cons (Arg.fn fun _ _ h=>qN (D:=DR.strict) h) aJ.nil)))<|cs O O O d<|ak 4 O ?_
 cases q;exact an (Sb hk O (bu.cell O (sB d) O bu.nil))
def sF{c0:ard V3}{L:ard (V3)}(ho:Ej c0=some L):yR prog 379 [nm (TL ar c0)] (fun(x:V3)=>[ar x]) L:=by
 refine Cc (N:=16) func379 O ntmps379 (by simp) ai4 fun{σ ρ} Bd K u r q l J Jx w H0 I hJ hI hy=>?_
 replace q:=M9 ho Bd K u q;unfold jb at q;refine rS<|cR O ow<|cJ ky O<|cN<|ak 65761 O<|ai<|IQ (τ:=σ×Int) (J:=J) (fun s1=>s1.1) (fun s1=>[(0,.val (wR l)),(5,.val (TL ar c0)),(6,.val (TiZ (c0.length:Int))),(7,.val (TiZ s1.2))]) q hJ (sS [16,0,5,6,7] O) (fun k2 s1 I q hJ=>?_)
 refine rS<|cL O O<|ak 66017 O<|ah<|gc O q (fun hb3 q=>?_) fun hb3 q=>?_
 ·refine aj<|aw<|ah<|ai ?_
  obtain⟨x4,h5,q⟩:=ab q;refine rS<|cP (oX uw (dI O) O O h5)<|cR O g<|cT bY<|cs O O O g<|ak 65777 O<|ah<|X0 (l1:=[_,_]) O O hy q hJ O O (ft.cons (Step.pure (oM O) O O (bU O) O O) (ft.cons (Step.pure (ae O g) O O (bU O) O O) (ft.fin (sS [0,5,6,7,11,12,16] O)))) O (aJ.cons (aT O) aJ.nil) O (sS [0,5,6,7] O) O (bU O) (bU O) (fun u I q hJ=>aw ?_) (fun I hJ=>aw ?_)
  rotate_left
  ·refine rY O (fun _=>an (Ml O O O hJ)) (fun h=>by cases h)
  ·
   refine rY O (fun h=>by cases h) (fun _=>?_);refine aj (aw ?_);obtain⟨x6,h7,q⟩:=ab q;exact rK<|cH O h7<|cO (oM O)<|ak 65761 O (GC q hJ (sS [16,0,5,6,7] O))
 ·exact aN (Sc O O O q hJ)
def tU{a0 r}(q:jH a0=some r):al prog 332 [(TL ar) a0] (.vs [(Sl prog (fun(x:V3)=>[ar x])) r]):=by
 unfold jH at q;refine c7 func332 O ntmps332 (by kernel_rfl) fun w0 H0=>rS<|cX<|cP (aA (Arg.c O))<|ak 2 O<|rS<|cG (pT (t:=1) O)<|cP (Bz (o:=Ej a0) (aJ.cons (aT O) aJ.nil) (fun _ h=>sF h))<|cA<|ak 4 O ?_
 cases q;exact an (r1 O)
def rH{a0 a1 r}(q:lJ a0 a1=some r):al prog 406 [(TN ar) a0,(Sl prog (fun(x:V3)=>[ar x])) a1] (.fr 91 12 (lT ar r)):=by
 refine c7 func406 O ntmps406 (by kernel_rfl) fun w0 H0=>?_
 obtain⟨h1,q⟩:=rE q;refine rS<|cP (Xk (ps:=[.buf 91 12 []]) false (aT O) HL (yQ.buf (B1.1 h1) yQ.nil))<|cP (aA (Arg.nn (f:=ar)))<|ak 6 O<|ah<|rS<|cM<|ak 68 O<|ai ?_
 obtain⟨x6,h7,q⟩:=ab q;refine Ch (σ:=(ard V3)) [2] (fun s2=>[(2,.qH 137 false [.buf 91 12 (lT ar s2)])]) none q h7 O O O (sS [2] O) (fun _=>O) (fun G h=>by cases h) (fun _=>O) O (by decide) (fun wr Hr l rc pv k5 x3 s2 UW q=>?_) (fun s2 q=>aw ?_) (fun G h=>by cases h)
 ·
  refine rK<|cT bY<|cs O O O g<|ak 73764 O (Ow (sS [13,2,5,16] O) O ?_)
  refine ai ?_;obtain⟨x8,h9,q⟩:=ab q;exact rK<|cS (Bp (i:=0) false (iV.box O) O O O O ow (bU O) O)<|cU O g<|cP (bS bY D7 O O)<|cS (xk ky Cn (dI O) O (aT O) h9 (bU O))<|cS (F8 (i:=0) (iV.box O) O O O (wS.buf O) O ow)<|cG (we (t:=2) (u:=11) (i:=0) O O O O)<|cY (sS [2,13,16] O) (xE (J6:=none) q (sS [13,16,2] O))
 ·
  refine rS<|cS (Bp (i:=0) true (iV.box O) O O O O ow (bU O) O)<|cS (bt O O (bU O) _ (Or.inl O))<|cF [4] O ?_
  cases q;exact an (wQ O O O O)
def zS{a0 r}(q:qT a0=some r):al prog 378 [(Sl prog (fun(x:V3)=>[ar x])) a0] (.fr 91 12 (lT ar r)):=by
 refine c7 func378 O ntmps378 (by kernel_rfl) fun w0 H0=>rS<|cP (ba ar 91 12)<|ak 1 O ?_
 obtain⟨x1,h2,q⟩:=ab q;refine rS<|cM<|cP (fL (rH h2) (aJ.cons Arg.nn (aJ.cons (aT O) aJ.nil)))<|cS (bt O O (bU O) _ (Or.inl O))<|ak 4 O ?_
 cases q;exact an (wQ O O O O)
def xg{a0 a1 r}(q:oE a0 a1=some r):al prog 331 [(Sl prog (fun(x:V3)=>[ar x])) a0,(Fj prog (fun(x:V3×V3)=>[ar x.1,ar x.2]) (fun(x:Int)=>[TiZ x])) a1] (.fr 91 12 (lT ar r)):=by
 refine c7 func331 O ntmps331 (by kernel_rfl) fun w0 H0=>rS<|cP (ba ar 91 12)<|ak 3 O ?_
 obtain⟨x1,h2,q⟩:=ab q;refine rS<|cM<|cC (zS h2) O<|cS (bt O O (bU O) _ (Or.inl O))<|ak 34 O ?_
 obtain⟨x3,h4,q⟩:=ab q;refine rS<|cQ<|cM<|cS (jK (xs:=[]) (ys:=[.tmp 9]) (YW h4) (dZ.same O) O O O aJ.nil (aJ.cons (aT O) aJ.nil) (bU O) O)<|cF [5] O<|rS<|cQ<|cS (SZ O O O (bU O) _ (Or.inl O))<|cF [4] O ?_
 cases q;exact an (wQ O O O O)
def l8{a0 a1 r}(q:kj a0 a1=some r):al prog 131 [ar a0,ar a1] (.vs [TiZ r]):=by
 refine c7 func131 O ntmps131 (by kernel_rfl) fun w0 H0=>rS<|cX<|cX<|cI<|ak 12 O ?_
 obtain⟨x1,h2,x3,h4,x5,h6,x7,h8,q⟩:=b4 q;refine gE 18 mixed<|dP [2] O (iO O M O)<|dP [5,2] O (oP 0 O O d)<|dP [3] O (iO O M O)<|dP [7,3] O (oP 0 O O d)<|dP [6,8] O (oC (qN h2) O)<|dP [2] O (iO O M O)<|dP [10,2] O (oP 1 O O d)<|dP [3] O (iO O M O)<|dP [12,3] O (oP 1 O O d)<|dP [11,13] O (oC (qN h4) O)<|dP [2] O (iO O M O)<|dP [15,2] O (oP 2 O O d)<|dP [3] O (iO O M O)<|dP [17,3] O (oP 2 O O d)<|dP [16,18] O (oC (qN h6) O)<|dP [9,14,19] O (bS oW rZ O O)<|dP [20] O (oC (xh h8) O)<|dP [21] O (oA O)<|dN<|dE [4] O (by kernel_rfl)<|cD ?_
 cases q;exact an (r1 O)
def CY{a0 a1 r}(q:yg a0 a1=some r):al prog 334 [ar a0,ar a1] (.vs [aY r]):=by
 refine c7 func334 O ntmps334 (by kernel_rfl) fun w0 H0=>rS<|cX<|cX<|cB<|ak 12 O ?_
 obtain⟨x1,h2,q⟩:=ab q;refine rS<|cU O g<|cU O g<|cC (l8 h2) O<|cP (df (aT O) aI)<|cA<|cF [4] O ?_
 cases q;exact an (r1 O)
def AH{a0 r}(q:uG a0=some r):al prog 270 [(TL ar) a0] (.fr 91 12 (lT ar r)):=by
 refine c7 func270 O ntmps270 (by kernel_rfl) fun w0 H0=>rS<|cP (aA (Arg.nn (f:=ar)))<|ak 1 O ?_
 obtain⟨x1,h2,x3,h4,q⟩:=b2 q;refine rS<|cM<|cC (tU h2) O<|cP (fL (xg h4) (aJ.cons (aT O) (aJ.cons (Arg.fn fun _ _ h=>l8 (D:=DR.strict) h) aJ.nil)))<|cS (bt O O (bU O) _ (Or.inl O))<|ak 8 O ?_
 obtain⟨x5,h6,q⟩:=ab q;refine rS<|cQ<|cS (YR (Pe h6) O O (aJ.cons (Arg.fn fun _ _ h=>CY (D:=DR.strict) h) aJ.nil) (bU O))<|cS (bt O O (bU O) _ (Or.inl O))<|ak 4 O ?_
 cases q;exact an (wQ O O O O)
def KN{a0 a1 c0 c1 r}(q:wB a0 a1 c0 c1=some r):al prog 377 [ar a0,ar a1,nm (ar c0),nm (ar c1)] (.vs [TiZ r]):=by
 refine c7 func377 O ntmps377 (by kernel_rfl) fun w0 H0=>rS<|cX<|cX<|cI<|ak 60 O ?_
 obtain⟨x1,h2,x3,h4,x5,h6,x7,h8,x9,kG,q⟩:=b5 q;refine gE 11 mixed<|dP [2] O (aU (aT O) g)<|dP [5] O (ae O g)<|dP [3] O (aU (aT O) g)<|dP [8,9] O (oC (iB h2) O)<|dP [4] O (ae O g)<|dP [3] O (aU (aT O) g)<|dP [11,12] O (oC (iB h4) O)<|dP [10,13] O (oC (jw h6) O)<|dP [7,14] O (oC (fg h8) O)<|dP [15] O (oC (ja kG) O)<|dP [16] O (oA O)<|dN<|dE [6] O (by kernel_rfl)<|cD ?_
 cases q;exact an (r1 O)
def Fs{a0 a1 r}(q:Ai a0 a1=some r):al prog 330 [(TL ar) a0,ar a1] (.vs [(TL ar) r]):=by
 refine c7 func330 O ntmps330 (by kernel_rfl) fun w0 H0=>rS<|cX<|cP (ba ar 91 12)<|ak 9 O ?_
 obtain⟨x1,h2,q⟩:=ab q;refine rS<|cM<|cC (AH h2) O<|cS (bt O O (bU O) _ (Or.inl O))<|ak 40 O ?_
 obtain⟨x3,h4,x5,h6,q⟩:=b2 q;refine rS<|cQ<|cP (dK uw O O aI h4)<|cP (og (f:=ar) (fun _=>O) O O (bF h6) g)<|cT bY<|cs O O O g<|ak 104 O ?_
 obtain⟨h7,q⟩:=rE q;obtain⟨x8,h9,q⟩:=ab q;obtain⟨kG,q⟩:=rE q;refine rS<|cQ<|cP (P6 (f:=ar) uw (dZ.same O) O (Lo.some aI) Lo.none h7)<|cG (pT (t:=3) O)<|cG (pT (t:=6) O)<|cP (zd (A:=fun(x:V3×V3)=>[ar x.1,ar x.2]) (R:=fun(x:Int)=>[TiZ x]) (fn:=fun x=>wB x.1 x.2 a1 x5) (aJ.cons (aT O) (aJ.cons (aT O) aJ.nil)) (fun _ _ h=>KN (D:=DR.strict) h))<|cS (S1 (f:=ar) (xs:=[]) (ys:=[.tmp 14]) (fun _=>O) (fun ps qs _=>Vo h9) dZ.own O O kG aJ.nil (aJ.cons (aT O) aJ.nil) (bU O) O)<|cF [5] O ?_
 refine rS<|cQ<|cG (ij (t:=5) O)<|cG (jL (s:=16) O O)<|cA<|cF [4] O ?_
 cases q;exact an (r1 O)
def QI{a0 r}(q:H8 a0=some r):al prog 352 [aX a0] (.vs [(TL aK) r]):=by
 refine c7 func352 O ntmps352 (by kernel_rfl) fun w0 H0=>rS<|cX<|cP (ba aK 237 17)<|ak 2 O<|rS<|cP (ba aK 237 17)<|ak 10 O<|ah<|rS<|cN<|ak 4106 O<|ai<|gl (σ:=(ard ((V3×Rat)×(ard V3)))×Int) (fun s1=>[(1,.own 87 (aX a0)),(3,.buf 237 17 (lT aK s1.1)),(12,.val (TiZ s1.2))]) q O (fun k2 s1 q=>?_)
 refine rS<|cP (eC (aT O) aI)<|ak 12298 O<|ah<|gc O q (fun hb3 q=>?_) fun hb3 q=>?_
 ·refine aj<|aw<|ah<|ai<|rS<|cM<|cA<|ak 4122 O<|rS<|cP (sY (s':= .val (TL TiZ ([(-1:Int),(1:Int)]:ard Int))) (bS oW rZ O O) O)<|cJ dF O<|cN<|ak 233498 O<|ai<|jj [1,4,12,15,16] O (σ:=(ard ((V3×Rat)×(ard V3)))×Int) (fun s4=>[(3,.buf 237 17 (lT aK s4.1)),(17,.val (TiZ s4.2))]) q O (fun k5 s4 q=>?_)
  refine rS<|cL O O<|ak 495642 O<|ah<|gc O q (fun Pp q=>?_) fun Pp q=>?_
  ·refine aj<|aw<|ah<|ai ?_
   obtain⟨x7,h8,q⟩:=ab q;refine rS<|cP (oX eT (dI O) O O h8)<|cR O C<|cA<|ak 233562 O<|rS<|cT bY<|ak 233690 O ?_
   obtain⟨x9,kG,q⟩:=ab q;refine rS<|cC (CZ kG) O<|cs O O O g<|ak 233690 O ?_
   obtain⟨iM,qC,iW,nJ,q⟩:=b2 q;refine rS<|cM<|cM<|cC (Lq qC) O<|cP (Rj (l:=([x9.1,x9.2.1,x9.2.2]:ard Rat)) O M O (aT O) nJ)<|cS (M7 O O (aT O) (il.acY (fun _=>O) nJ) d)<|ak 233690 O<|rS<|cP (ba ar 91 12)<|ak 233946 O<|ah<|rS<|cP (bA Ee J3 O O)<|cP (bA Ee J3 O O)<|cP (bA Ee J3 O O)<|cP (bA Ee J3 O O)<|cP (sY (s':= .val (TL Yo ([((-1:Int),(-1:Int)),((-1:Int),(1:Int)),((1:Int),(-1:Int)),((1:Int),(1:Int))]:ard (Int×Int)))) (bS Ee ajd O O) O)<|cJ afm O<|cN<|ak 7516426714 O ?_
   refine ai<|jj [1,3,4,6,7,12,15,16,17,30,31] O (σ:=(ard V3)×Int) (fun Ek=>[(8,.buf 91 12 (lT ar Ek.1)),(32,.val (TiZ Ek.2))]) q O (fun Zx Ek q=>?_)
   refine rS<|cL O O<|ak 16106361306 O<|ah<|gc O q (fun JS q=>?_) fun JS q=>?_
   ·refine aj<|aw<|ah<|ai ?_
    obtain⟨iZ,qi,q⟩:=ab q;refine rS<|cP (oX ahg (dI O) O O qi)<|cR O abJ<|cT Ee<|cs O O O abJ<|ak 7516427738 O ?_
    obtain⟨kR,h21,q⟩:=ab q;refine rS<|cC (CZ h21) O<|cT bY<|cs O O O g<|ak 7516429786 O ?_
    obtain⟨my,Cf,sE,Gv,yY,JX,oY,Fi,qE,CO,qf,JW,q⟩:=b6 q;obtain⟨yX,N6,uj,R5,Fm,Um,WN,h41,x42,h43,Sn,Pq,q⟩:=b6 q;obtain⟨PF,XV,q⟩:=ab q;refine gE 27 mixed<|dP [4] O (oM O)<|dP [4] O (oM O)<|dP [38] O (bR (aT O) aI Cf)<|dP [39] O (mQ (aT O) aI Gv)<|dP [4] O (oM O)<|dP [41] O (bR (aT O) aI JX)<|dP [42] O (mQ (aT O) aI Fi)<|dP [6] O (oM O)<|dP [44] O (oC (Lq CO) O)<|dP [1] O (ae O d)<|dP [45,46] O (oC (kh JW) O)<|dP [10] O (iO O J3 O)<|dP [48,10] O (oP 0 O O C)<|dP [49] O (oC (Lq N6) O)<|dP [1] O (ae O d)<|dP [50,51] O (oC (kh R5) O)<|dP [10] O (iO O J3 O)<|dP [53,10] O (oP 1 O O C)<|dP [54] O (oC (Lq Um) O)<|dP [1] O (ae O d)<|dP [55,56] O (oC (kh h41) O)<|dP [11,37] O (Rj (l:=([kR.1,kR.2.1,kR.2.2]:ard Rat)) O M O (aT O) h43)<|dS [47,58,11] O (Jj O O (aT O) (il.acY (fun _=>O) h43) d)<|dP [11,40] O (Rj (l:=([Bn s1.2 0 qf kR.1,Bn s1.2 1 qf kR.2.1,Bn s1.2 2 qf kR.2.2]:ard Rat)) O M O (aT O) Pq)<|dS [52,59,11] O (Jj O O (aT O) (il.acY (fun _=>O) Pq) d)<|dP [11,43] O (Rj (l:=([Bn sE 0 uj (Bn s1.2 0 qf kR.1),Bn sE 1 uj (Bn s1.2 1 qf kR.2.1),Bn sE 2 uj (Bn s1.2 2 qf kR.2.2)]:ard Rat)) O M O (aT O) XV)<|dS [57,60,11] O (Jj O O (aT O) (il.acY (fun _=>O) XV) d)<|dN<|dE [1,3,4,6,7,8,11,12,15,16,17,30,31,32] O (by kernel_rfl)<|cD ?_
    obtain⟨Eh,h49,q⟩:=ab q;refine rK<|cQ<|cU O g<|cP (bS bY D7 O O)<|cS (dp ky Cn (dI O) O O (aT O) h49 (bU O))<|cS (bt O O (bU O) _ (Or.inl O))<|ak 7516426714 O (aw ?_)
    obtain⟨SD,h51,q⟩:=ab q;exact rK<|cH O h51<|cO (oM O)<|ak 7516426714 O (cm q O)
   ·refine aN<|aw<|Ci (ij (t:=8) O)<|lP (sS [1,3,4,6,7,8,12,15,16,17,30,31,32,33] O) ?_
    obtain⟨OJ,h53,SC,h55,q⟩:=b2 q;refine gD 11 mixed<|dP [3] O (eI)<|dP [7] O (ae O g)<|dP [1] O (ae O d)<|dP [67,68] O (bB CW Ho O)<|dP [8] O (oM O)<|dP [7] O (ae O g)<|dP [70,71] O (oC (Fs h53) O)<|dP [69,72] O (bB Mo QY O)<|dP [73] O (bS pM Sd O O)<|dG [66] [66,74,3] O (pB rC Sf (dI O) O O (aT O) h55 (bU O))<|dG [] [75] O (tO O O (bU O) _ (Or.inl O))<|dN<|dE [1,3,4,12,15,16,17] O (by kernel_rfl)<|cD (aw ?_)
    obtain⟨SB,h57,q⟩:=ab q;exact rK<|cH O h57<|cO (oM O)<|ak 233498 O (cm q O)
  ·refine aN (aw ?_);obtain⟨SA,h59,q⟩:=ab q;exact rK<|cH O h59<|cO (oM O)<|ak 4106 O (cm q O)
 ·refine aN<|aw<|rS<|cQ<|cG (ij (t:=3) O)<|cG (jL (s:=78) O O)<|cA<|ak 4 O ?_
  cases q;exact an (r1 O)
def gF{a0 a1 r}(q:fP a0 a1=some r):al prog 122 [bg a0,ar a1] (.vs [aX r]):=by
 refine c7 func122 O ntmps122 (by kernel_rfl) fun w0 H0=>rS<|cX<|cX<|cT V<|ak 28 O ?_
 obtain⟨x1,h2,x3,h4,q⟩:=b2 q;refine gE 8 mixed<|dQ 0 O jP O g<|dP [3] O (ae O g)<|dP [6,7] O (oC (fg h2) O)<|dQ 1 O yM O d<|dP [8,10] O (oC (vL h4) O)<|dS [4,11] O (ds O O O d)<|dN<|dE [4] O (by kernel_rfl)<|cD ?_
 cases q;exact an (q1 O d)
def KM{c0:ard V3}{L:ard ((V3×V3))}(ho:Hp c0=some L):yR prog 288 [nm (TL ar c0)] (fun(x:(V3×V3))=>[I3 x]) L:=by
 refine Cc (N:=26) func288 O ntmps288 (by simp) ai7 fun{σ ρ} Bd K u r q l J Jx w H0 I hJ hI hy=>?_
 replace q:=Pb ho Bd K u q;unfold wA at q;refine rS<|cR O ow<|cJ ky O<|cN<|ak 67109091 O<|ai<|IQ (τ:=σ×Int) (J:=J) (fun s1=>s1.1) (fun s1=>[(0,.val (wR l)),(1,.val (nm (TL ar c0))),(5,.val (TL ar c0)),(6,.val (TiZ (c0.length:Int))),(7,.val (TiZ s1.2))]) q hJ (sS [26,0,1,5,6,7] O) (fun k2 s1 I q hJ=>?_)
 refine rS<|cL O O<|ak 67109347 O<|ah<|gc O q (fun hb3 q=>?_) fun hb3 q=>?_
 ·refine aj<|aw<|ah<|ai ?_
  obtain⟨x4,h5,q⟩:=ab q;refine rS<|cM<|cP (oX uw (dI O) O O h5)<|cR O g<|cT bY<|cA<|cs O O O g<|ak 67109115 O ?_
  obtain⟨x6,h7,x8,h9,dz,jv,q⟩:=b3 q;refine ah<|Uo (k:=11) O O hy q hJ [[(12,[])],[(13,[])],[(14,[])],[(15,[])],[(16,[])],[(17,[])],[(18,[])],[(19,[])],[(20,[])],[(21,[])],[(22,[])]] [] [[],[],[],[],[3],[],[5],[3,4,5,6],[2,3,4,5,6,7],[2,3,4,5,6,7,8],[1,2,3,4,5,6,7,8,9],[0,1,2,3,4,5,6,7,8,9,10],[0,1,2,3,4,5,6,7,8,9,10,11]] [[0],[4],[1],[3],[15],[1],[17],[16,18],[14,19],[20],[13,21]] [true,true,true,true,true,true,true,true,true,true,true] mixed (by kernel_rfl) O (cd.cons (sS [0] O) (oM O) O O (bU O) (cd.cons (sS [4] O) (ae O g) O O (bU O) (cd.cons (sS [1] O) (aU (aT O) ow) O O (bU O) (cd.cons (sS [3] O) (oM O) O O (bU O) (cd.cons (sS [15] O) (bR (aT O) aI h7) O O (bU O) (cd.cons (sS [1] O) (aU (aT O) ow) O O (bU O) (cd.cons (sS [17] O) (pW ky (aT O)) O O (bU O) (cd.cons (sS [16,18] O) (mQ (aT O) (aT O) h9) O O (bU O) (cd.cons (sS [14,19] O) (kS uw (dI O) (aT O) (aT O) jv) O O (bU O) (cd.cons (sS [20] O) (aU (aT O) g) O O (bU O) (cd.cons (sS [13,21] O) (bA aaw Cm O O) O O (bU O) (cd.nil)))))))))))) O O (sS [0,1,5,6,7,12,22,26] O) O O (aJ.cons (aT O) aJ.nil) O (sS [0,1,5,6,7] O) O (bU O) (bU O) (fun u I q hJ=>aw ?_) (fun I hJ=>aw ?_)
  rotate_left
  ·refine rY O (fun _=>an (Ml O O O hJ)) (fun h=>by cases h)
  ·
   refine rY O (fun h=>by cases h) (fun _=>?_);refine aj (aw ?_);obtain⟨fp,kU,q⟩:=ab q;exact rK<|cH O kU<|cO (oM O)<|ak 67109091 O (GC q hJ (sS [26,0,1,5,6,7] O))
 ·exact aN (Sc O O O q hJ)
def Fq{a0 r}(q:vl a0=some r):al prog 216 [(TL ar) a0] (.vs [(Sl prog (fun(x:(V3×V3))=>[I3 x])) r]):=by
 unfold vl at q;refine c7 func216 O ntmps216 (by kernel_rfl) fun w0 H0=>rS<|cX<|cP (aA (Arg.c O))<|ak 2 O<|rS<|cG (pT (t:=1) O)<|cP (Bz (o:=Hp a0) (aJ.cons (aT O) aJ.nil) (fun _ h=>KM h))<|cA<|ak 4 O ?_
 cases q;exact an (r1 O)
def gw{a0 a1 r}(q:dJ a0 a1=some r):al prog 128 [ar a0,aX a1] (.vs [ar r]):=by
 refine c7 func128 O ntmps128 (by kernel_rfl) fun w0 H0=>rS<|cX<|cX<|cT bY<|ak 28 O ?_
 obtain⟨x1,h2,x3,h4,x5,h6,q⟩:=b3 q;refine gE 14 mixed<|dP [2] O (iO O M O)<|dP [5,2] O (oP 0 O O d)<|dP [3] O (ae O d)<|dP [6,7] O (oC (kh h2) O)<|dP [2] O (iO O M O)<|dP [9,2] O (oP 1 O O d)<|dP [3] O (ae O d)<|dP [10,11] O (oC (kh h4) O)<|dP [2] O (iO O M O)<|dP [13,2] O (oP 2 O O d)<|dP [3] O (ae O d)<|dP [14,15] O (oC (kh h6) O)<|dP [8,12,16] O (bA rl M O O)<|dS [4,17] O (ds O O O g)<|dN<|dE [4] O (by kernel_rfl)<|cD ?_
 cases q;exact an (q1 O g)
def jk{a0 a1 r}(q:dC a0 a1=some r):al prog 127 [ar a0,ar a1] (.vs [ar r]):=by
 refine c7 func127 O ntmps127 (by kernel_rfl) fun w0 H0=>rS<|cX<|cX<|cT bY<|ak 28 O ?_
 obtain⟨x1,h2,x3,h4,x5,h6,q⟩:=b3 q;refine gE 17 mixed<|dP [2] O (iO O M O)<|dP [5,2] O (oP 0 O O d)<|dP [3] O (iO O M O)<|dP [7,3] O (oP 0 O O d)<|dP [6,8] O (oC (Dj h2) O)<|dP [2] O (iO O M O)<|dP [10,2] O (oP 1 O O d)<|dP [3] O (iO O M O)<|dP [12,3] O (oP 1 O O d)<|dP [11,13] O (oC (Dj h4) O)<|dP [2] O (iO O M O)<|dP [15,2] O (oP 2 O O d)<|dP [3] O (iO O M O)<|dP [17,3] O (oP 2 O O d)<|dP [16,18] O (oC (Dj h6) O)<|dP [9,14,19] O (bA rl M O O)<|dS [4,20] O (ds O O O g)<|dN<|dE [4] O (by kernel_rfl)<|cD ?_
 cases q;exact an (q1 O g)
def E3{a0 a1 r}(q:wZ a0 a1=some r):al prog 329 [(TL ar) a0,bg a1] (.vs [(TL ar) r]):=by
 refine c7 func329 O ntmps329 (by kernel_rfl) fun w0 H0=>rS<|cX<|cP (aA (Arg.nn (f:=ar)))<|ak 9 O<|rS<|cPr (Ep (ps:=[.buf 91 12 []]) false (aau) HL (yQ.buf O yQ.nil)) O<|ak 41 O<|ah ?_
 obtain⟨x1,h2,q⟩:=ab q;refine rS<|cM<|cC (Fq h2) O<|ak 2088 O<|ai ?_
 obtain⟨x7,h8,q⟩:=ab q;refine Ch (σ:=(ard V3)) [3,5] (fun s3=>[(3,.own 212 (bg a1)),(5,.qH 137 false [.buf 91 12 (lT ar s3)])]) none q h8 O O O (sS [3,5] O) (fun _=>O) (fun G h=>by cases h) (fun _=>O) O (by decide) (fun wr Hr l rc pv k6 x4 s3 UW q=>?_) (fun s3 q=>aw ?_) (fun G h=>by cases h)
 ·
  refine rK<|cT Pz<|cs O O O abL<|cF [3,5,6,54,58,60] O (Ow (sS [54,3,5,6,58,60] O) O ?_)
  refine ai ?_;obtain⟨x9,kG,iM,qC,q⟩:=b2 q;refine gE 12 mixed<|dP [3] O (ae O fI)<|dP [6] O (iO O Cm O)<|dP [14,6] O (oP 0 O O g)<|dP [13,15] O (oC (gF kG) O)<|dP [3] O (ae O fI)<|dP [6] O (iO O Cm O)<|dP [18,6] O (oP 1 O O g)<|dP [17,19] O (oC (gF qC) O)<|dP [] O (gW V)<|dP [] O (gW V)<|dS [7,16] O (ds O O O d)<|dS [8,20] O (ds O O O d)<|dN<|dE [3,5,6,7,8,54,58,60] O (by kernel_rfl)<|cD<|ah ?_
  obtain⟨iW,nJ,q⟩:=ab q;refine rS<|cU O d<|cC (ja nJ) O<|cP (yc (aT O) aI)<|ak 1459166279276429800 O<|uU [3,6,7,8,54,58,60] O (α:=(ard V3)) (fun Ek=>[(5,.qH 137 false [.buf 91 12 (lT ar Ek)])]) q (fun Zx q=>?_) (fun Ek q=>?_)
  ·refine gc O q (fun JS q=>?_) fun JS q=>?_
   ·obtain⟨iZ,qi,q⟩:=ab q;exact rK<|cS (Bp (i:=0) false (iV.box O) O O O O ow (bU O) O)<|cP (iO O Cm O)<|cV 0 O O g<|cP (bS bY D7 O O)<|cS (xk ky Cn (dI O) O (aT O) qi (bU O))<|cS (F8 (i:=0) (iV.box O) O O O (wS.buf O) O ow)<|cG (we (t:=5) (u:=28) (i:=0) O O O O)<|cY (sS [3,5,6,7,8,54,58,60] O) (cm q O)
   ·exact aj (cm q O)
  ·refine aw ?_;obtain⟨kR,h21,my,Cf,sE,Gv,q⟩:=b3 q;refine gE 6 mixed<|dP [7] O (ae O d)<|dP [29] O (oC (ja h21) O)<|dP [8] O (ae O d)<|dP [31] O (oC (ja Cf) O)<|dP [30,32] O (oz (aT O) (aT O) Gv)<|dP [33] O (eC (aT O) aI)<|dN<|dE [3,5,6,7,8,34,54,58,60] O (by kernel_rfl)<|cD<|gc O q (fun aoU q=>?_) fun aoU q=>?_
   ·obtain⟨oN,CP,Ax,IM,q⟩:=b2 q;refine gE 7 mixed<|dP [7] O (ae O d)<|dP [7] O (ae O d)<|dP [8] O (ae O d)<|dP [36,37] O (oC (vL CP) O)<|dP [35,38] O (oC (Di IM) O)<|dP [] O (gW V)<|dS [9,39] O (ds O O O d)<|dN<|dE [3,5,6,9,54,58,60] O (by kernel_rfl)<|cD ?_
    obtain⟨vH,Fh,xd,Gu,sK,Gt,xc,JV,q⟩:=b4 q;exact gD 14 mixed<|dT [5] O (MX (i:=0) false (iV.box O) O O O O ow (bU O) O)<|dP [6] O (iO O Cm O)<|dP [41,6] O (oP 0 O O g)<|dP [6] O (iO O Cm O)<|dP [43,6] O (oP 1 O O g)<|dP [6] O (iO O Cm O)<|dP [45,6] O (oP 0 O O g)<|dP [44,46] O (oC (iB Fh) O)<|dP [9] O (ae O d)<|dP [47,48] O (oC (gw Gu) O)<|dP [42,49] O (oC (jk Gt) O)<|dP [50] O (bS bY D7 O O)<|dG [] [40,51] O (Mh ky Cn (dI O) O (aT O) JV (bU O))<|dS [5,52] O (WU (i:=0) (iV.box O) O O O (wS.buf O) O ow)<|dN<|dE [3,5,52,54,58,60] O (by kernel_rfl)<|cG (we (t:=5) (u:=52) (i:=0) O O O O)<|cY (sS [3,5,54,58,60] O) (xE (J6:=none) q (sS [54,58,60,3,5] O))
   ·exact aj (xE (J6:=none) q (sS [54,58,60,3,5] O))
 ·
  refine rS<|cS (Bp (i:=0) true (iV.box O) O O O O ow (bU O) O)<|cS (bt O O (bU O) _ (Or.inl O))<|cF [4] O ?_
  cases q;exact an (fi (ij (t:=4) O) (fX O O (bu.tmp O O bu.nil)))
end
end Trn
