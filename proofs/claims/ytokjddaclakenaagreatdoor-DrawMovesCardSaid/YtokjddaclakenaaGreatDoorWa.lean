/-
  Part of the proof of DrawMoves.
-/
import Derived.Test.YtokjddaclakenaaGreatDoorHc
set_option maxRecDepth 100000
set_option maxHeartbeats 20000000
set_option linter.all false
open Go Go.RowKit Go.Proofs Go.Proofs.Tryz
namespace Trn
section
variable[D:DR]
def Ik{a0 r}(q:qM a0=some r):cw 6 [(TL aR) a0] [aZ r]:=
 dp func6 O ax<|rS<|cB<|aj 1 O<|ae<|rS<|cI<|aj 9 O<|ah<|jE [0] O (σ:=Int) (fun s1=>[(3,.val (TiZ s1))]) q O (fun k2 s1 q=>by exact ae<|rS<|cM<|cM<|cJ xH O<|cL O O<|aj 265 O<|gc O q (fun hb3 q=>ai<|ar<|ae<|ah<|rS<|cI<|aj 25 O<|ah<|jE [0,3] O (σ:=Int) (fun s4=>[(4,.val (TiZ s4))]) q O (fun k5 s4 q=>by exact ae<|rS<|cM<|cP (eJ (aT O) aI)<|aj 4121 O<|gc O q (fun Qp q=>ai<|ar<|ae<|ah<|jU q fun x7 h8 x9 kB q=>rS<|cM<|cM<|cM<|cP (oX Ei (eE O) O O h8)<|cP (aiF (f:=TS) (l:=([x7.1,x7.2.1,x7.2.2]:asv aev)) gJ (fun _=>O) O (aT O) (aT O) kB)<|cR O T<|cP (fR JE (aT O))<|cP (da (aT O) aI)<|aj 4194329 O<|gc O q (fun KP q=>rS<|cB<|aj 4 O<|al (eS q O)) fun KP q=>ai (ar (ba q fun fJ lK q=>by exact rK<|cM<|cH O lK<|cO (oA O)<|aj 25 O (cm q O)))) fun Qp q=>aN (ar (ba q fun gH mF q=>by exact rK<|cM<|cH O mF<|cO (oA O)<|aj 9 O (cm q O))))) fun hb3 q=>aN<|ar<|rS<|cB<|aj 4 O<|al (eS q O))
def RE{a0 r}(q:yx a0=some r):cw 5 [cn a0] [aZ r]:=
 dp func5 O ax<|rS<|cX<|cB<|aj 2 O<|ba q fun x1 h2 q=>rS<|jt 0 O JQ O B<|jt 1 O C9 O B<|jt 2 O C8 O B<|cP (bS il LD O O)<|cC (Ik h2) O<|cA<|aj 4 O<|al (eS q O)
def yj{a0 r}(q:gL a0=some r):cw 16 [TS a0] [TiZ r]:=
 dp func16 O ax<|rS<|cI<|aj 1 O<|ae<|rS<|cM<|cP (vE (aT O) (Arg.s O))<|aj 17 O<|gc O q (fun hb1 q=>rS<|cI<|aj 4 O<|al (eS q O)) fun hb1 q=>ai<|ar<|ae<|kO q fun x2 h3 q=>rS<|cM<|cP (fR JE (aT O))<|cP (da (aT O) aI)<|cM<|gV O O (ov 0 O on) (fun rD=>oM O)<|gV O O (oo 9 O id on) (fun hg2=>qD JE (aT O) aI (h3 hg2))<|gV O O (oo 10 O id on) (fun M=>dv (aT O) aI)<|cP (dI (aT O) O j6)<|cF [12] O<|gc O q (fun Md q=>rS<|cI<|aj 4 O<|al (eS q O)) fun Md q=>ai<|ar<|rS<|cI<|aj 4 O<|al (eS q O)
def Ad{a0 r}(q:p5 a0=some r):cw 82 [TS a0] [TS r]:=
 dp func82 O ax<|rS<|cP (aC (Arg.s O))<|aj 1 O<|ae<|ba q fun x1 h2 q=>rS<|cM<|cC (yj h2) O<|cP (eJ (aT O) aI)<|aj 33 O<|gc O q (fun hb3 q=>ba q fun x4 h5 q=>rS<|cM<|cP (gK JE (aT O) (Lo.some aI) Lo.none h5)<|cA<|aj 4 O<|al (eS q O)) fun hb3 q=>ai<|ar<|ae<|ba q fun x6 h7 q=>rS<|cM<|cC (yj h7) O<|cP (dv (aT O) aI)<|aj 1025 O<|gc O q (fun X q=>rS<|cM<|cA<|aj 4 O<|al (eS q O)) fun X q=>ai (ar (ba q fun x9 kB q=>rS<|cM<|cP (qE (Arg.s O) (aT O) kB)<|cA<|aj 4 O<|al (eS q O)))
def qz{a0 a1 a2 a3 r}(q:ni a0 a1 a2 a3=some r):cw 81 [TiZ a0,TiZ a1,TiZ a2,TS a3] [bF r]:=by
 unfold ni at q;exact dp func81 O ax<|rS<|cT qw<|aj 271 O<|rS<|cM<|cM<|cM<|cP (bA Rt tc O O)<|cM<|cP (bB qw Ml O)<|cs O O O mx<|cF [8] O<|al (mE q O mx)
def D4{a0 a1 a2 a3 a4 a5 r}(q:Aw a0 a1 a2 a3 a4 a5=some r):cw 25 [TS a0,TS a1,TS a2,TS a3,TS a4,TS a5] [(TL bF) r]:=
 dp func25 O ax<|rS<|cP (aC (Arg.nn (f:=bF)))<|aj 63 O<|S8 q fun x1 h2 x3 h4 x5 h6 x7 h8 x9 kB iY qS q=>oK q fun jK ot kH S jH U q=>rS<|cM<|cC (Ad h2) O<|cC (qz h4) O<|cM<|cC (Ad h6) O<|cC (qz h8) O<|cM<|cC (Ad kB) O<|cC (qz qS) O<|cM<|cC (qz ot) O<|cM<|cC (qz S) O<|cM<|cC (qz U) O<|cP (tm (s':= .val (TL bF ([x3,x7,iY,jK,kH,jH]:asv ((Int×Int×Int)×aev)))) (bS qw anj O O) O)<|cA<|cF [12] O<|al (eS q O)
def tI{r:auw}(q:nP=some r):cw 38 [] [aR r]:=by
 unfold nP at q;exact dp func38 O ax<|rS<|cT il<|aj 1 O<|rS<|cP (om il gJ (uc O (uc O (uc O un))) (fO.cons (i:=0) (Arg.s O) O O (fO.cons (i:=1) (Arg.s O) O O (fO.cons (i:=2) (Arg.s O) O O fO.nil))))<|cs O O O B<|aj 1 O<|al (mE q O B)
def ow{a0 r}(q:kI a0=some r):cw 300 [(TL TiZ) a0] [(TL TiZ) r]:=
 dp func300 O ax<|rS<|cP (aC (Arg.nn (f:=TiZ)))<|aj 1 O<|ae<|ah<|gl (σ:=(asv Int)) (fun s1=>[(0,.val (TL TiZ s1))]) q O (fun k2 s1 q=>by exact ae<|kO q fun x3 h4 q=>kO q fun x5 h6 q=>rS<|cM<|cJ eh O<|cP (da (aT O) aI)<|cM<|gV O O (ov 0 O on) (fun rD=>oM O)<|gV O O (ov 0 O on) (fun hg2=>oM O)<|gV O O (oo 8 O id on) (fun M=>pA eh (aT O))<|gV O O (oo 9 O id on) (fun wa=>bt (aT O) aI (h4 wa))<|gV O O (oo 7 O id (oo 10 O id on)) (fun zW=>lO ft (eE O) (aT O) (aT O) (h6 zW))<|gV O O (oo 11 O id on) (fun Bm=>aU (aT O) C)<|gV O O (oo 12 O id on) (fun Hp=>dv (aT O) aI)<|cP (dI (aT O) O j6)<|cF [0,14] O<|gc O q (fun Bn q=>ai<|ar<|ah<|jU q fun x8 h9 eF j5 q=>by exact rK<|cM<|cM<|cJ eh O<|cP (bt (aT O) aI h9)<|cP (tl ft (eE O) (aT O) Lo.none (Lo.some (aT O)) j5)<|cO (oA O)<|aj 1 O (cm q O)) fun Bn q=>aN<|ar<|rS<|cM<|cA<|aj 4 O<|al (eS q O))
def jV{a0 a1 r}(q:fw a0 a1=some r):cw 225 [aZ a0,(TL TiZ) a1] [bn r]:=
 dp func225 O ax<|rS<|cT lM<|aj 19 O<|ba q fun x1 h2 q=>rS<|cM<|cC (ow h2) O<|cO (oA O)<|aj 19 O<|rS<|cM<|cM<|gV O O (ov 1 O on) (fun rD=>oM O)<|gV O O (oo 9 O id on) (fun hg2=>pA eh (aT O))<|gV O O (oo 10 O id on) (fun M=>da (aT O) aI)<|cP (dI (aT O) O j6)<|cM<|cP (bB lM afr O)<|cs O O O fq<|cF [4] O<|al (mE q O fq)
def wg{a0 r}(q:o7 a0=some r):cw 151 [TiZ a0] [bn r]:=
 dp func151 O ax<|rS<|cT lM<|aj 5 O<|rS<|cP (bf TiZ 3 1)<|aj 13 O<|rS<|cM<|cP (eJ (aT O) aI)<|cA<|aj 29 O<|ae<|ah<|jE [2,4] O (σ:=Int×asv Int) (fun s1=>[(0,.val (TiZ s1.1)),(3,.buf 3 1 (lT TiZ s1.2))]) q O (fun k2 s1 q=>by exact ae<|rS<|cM<|cP (db (aT O) aI)<|aj 541 O<|gc O q (fun hb3 q=>ai<|ar<|ah<|ba q fun x4 h5 q=>rS<|cM<|cP (nI (aT O) aI h5)<|cA<|aj 61 O<|ae<|rS<|cM<|cP (eJ (aT O) aI)<|aj 8253 O<|uS [0,2,3,4] O (α:=Int) (fun s6=>[(5,.val (TiZ s6))]) q (fun k7 q=>by exact gc O q (fun X q=>ba q fun x9 kB q=>by exact rK<|cM<|cP (bt aI (aT O) kB)<|cO (oA O)<|aj 61 O (cm q O)) fun X q=>ai (cm q O)) (fun s6 q=>by exact ar<|ba q fun iY qS q=>rS<|cQ<|cM<|cP (bS pq ry O O)<|cS (dF eh HL (eE O) O O (aT O) qS (cq O))<|cS (bE O O (cq O) _ (Or.inl O))<|aj 29 O<|ba q fun jK ot q=>by exact rK<|cM<|cP (sA (aT O) aI ot)<|cO (oA O)<|aj 29 O (cm q O))) fun hb3 q=>aN (ar (ba q fun kH S q=>rS<|cM<|cQ<|cG (iM (t:=3) O)<|cG (km (s:=23) O O)<|cC (jV S) O<|cs O O O fq<|aj 4 O<|al (mE q O fq))))
def sx{a0 a1 r}(q:fQ a0 a1=some r):cw 224 [TiZ a0,TiZ a1] [TS r]:=
 dp func224 O ax<|rS<|cP (aC (Arg.s O))<|aj 3 O<|rS<|cP (aC (Arg.s O))<|aj 35 O<|ae<|ah<|gl (σ:=Int×aev) (fun s1=>[(0,.val (TiZ s1.1)),(1,.val (TiZ a1)),(5,.val (TS s1.2))]) q O (fun k2 s1 q=>by exact ae<|rS<|cM<|cP (da (aT O) aI)<|cM<|gV O O (ov 5 O on) (fun rD=>oM O)<|gV O O (oo 9 O id on) (fun hg2=>fR V (aT O))<|gV O O (ov 1 O on) (fun M=>oM O)<|gV O O (oo 10 O id (oo 11 O id on)) (fun wa=>eJ (aT O) (aT O))<|cP (fH (aT O) O jN)<|aj 8227 O<|gc O q (fun hb3 q=>ai<|ar<|ah<|Ts q fun x4 h5 x6 h7 x8 h9 eF j5 fJ lK q=>rS<|cM<|cP (nI (aT O) aI h5)<|cM<|cP (nI (aT O) aI h7)<|cH O h9<|cP (gK V (Arg.s O) (Lo.some (aT O)) (Lo.some (aT O)) j5)<|cM<|cP (qE (aT O) (aT O) lK)<|cO (oA O)<|aj 35 O<|ba q fun gH mF q=>by exact rK<|cM<|cP (sA (aT O) aI mF)<|cO (oA O)<|aj 35 O (cm q O)) fun hb3 q=>aN<|ar<|rS<|cM<|cA<|cF [4] O<|al (eS q O))
def B9{a0 r}(q:na a0=some r):cw 150 [bn a0] [TS r]:=
 dp func150 O ax<|rS<|cX<|cP (aC (Arg.s O))<|aj 2 O<|ae<|rS<|jt 1 O iS O mL<|cJ eh O<|cP (dv (aT O) aI)<|aj 258 O<|gc O q (fun hb1 q=>rS<|cP (aC (Arg.s O))<|aj 4 O<|al (eS q O)) fun hb1 q=>ai (ar (oK q fun x2 h3 x4 h5 x6 h7 q=>rS<|jt 1 O iS O mL<|jt 1 O iS O mL<|cJ eh O<|cP (bt (aT O) aI h3)<|cP (oX ft (eE O) O O h5)<|cR O C<|cC (sx h7) O<|cA<|aj 10 O<|ae<|ba q fun x8 h9 q=>rS<|jt 1 O iS O mL<|cJ eh O<|cP (bt (aT O) aI h9)<|cA<|aj 26 O<|ah<|jE [1] O (σ:=aev×Int) (fun Ha=>[(3,.val (TS Ha.1)),(4,.val (TiZ Ha.2))]) q O (fun k11 Ha q=>by exact ae<|rS<|cM<|cP (kg (aT O) aI)<|aj 8388634 O<|gc O q (fun KO q=>ai<|ar<|ae<|ah<|oK q fun jK ot kH S jH U q=>by exact rK<|cM<|jt 1 O iS O mL<|cM<|cP (oX ft (eE O) O O ot)<|cR O C<|cC (sx S) O<|cP (qE (aT O) (aT O) U)<|cO (oA O)<|aj 26 O (ar (ba q fun jR Y q=>by exact rK<|cM<|cP (bt (aT O) aI Y)<|cO (oA O)<|aj 26 O (cm q O)))) fun KO q=>aN<|ar<|ae<|rS<|jt 0 O qh O yK<|cF [3,35] O<|gc O q (fun ajx q=>ba q fun nZ DJ q=>rS<|cM<|cP (qE (Arg.s O) (aT O) DJ)<|cA<|aj 4 O<|al (eS q O)) fun ajx q=>ai<|ar<|rS<|cM<|cA<|aj 4 O<|al (eS q O))))
def xo{a0 r}(q:sB a0=some r):cw 86 [TiZ a0] [TS r]:=
 dp func86 O ax<|rS<|cP (aC (Arg.s O))<|aj 1 O<|jU q fun x1 h2 x3 h4 q=>rS<|cM<|cC (wg h2) O<|cC (B9 h4) O<|cA<|aj 4 O<|al (eS q O)
def ic{a0 a1 a2 r}(q:gM a0 a1 a2=some r):cw 28 [TiZ a0,TiZ a1,TiZ a2] [aR r]:=
 dp func28 O ax<|rS<|cT il<|aj 71 O<|oK q fun x1 h2 x3 h4 x5 h6 q=>rS<|cM<|cC (xo h2) O<|cM<|cC (xo h4) O<|cM<|cC (xo h6) O<|cP (bA il gJ O O)<|cs O O O B<|cF [6] O<|al (mE q O B)
def wo{r:(auw×auw×auw)}(q:sc=some r):cw 27 [] [cn r]:=
 dp func27 O ax<|rS<|cT mI<|aj 1 O<|oK q fun x1 h2 x3 h4 x5 h6 q=>rS<|cC (tI h2) O<|cC (ic h4) O<|cC (ic h6) O<|cP (bB mI xp O)<|cs O O O iK<|aj 1 O<|al (mE q O iK)
def Ga{a0 a1 r}(q:rl a0 a1=some r):cw 118 [(TL aR) a0,(Gk prog (fun(x:auw)=>[aR x]) (fun(x:Int)=>[TiZ x])) a1] [TiZ r]:=
 dp func118 O ax<|rS<|cI<|aj 3 O<|ae<|rS<|cM<|cJ xH O<|cN<|aj 1794 O<|ah<|jE [1,8,9] O (σ:=Int) (fun s1=>[(10,.val (TiZ s1))]) q O (fun k2 s1 q=>by exact rS<|cL O O<|aj 3842 O<|ae<|gc O q (fun hb3 q=>ai<|ar<|ae<|ah<|ba q fun x4 h5 q=>rS<|cP (oX Ei (eE O) O O h5)<|cR O B<|cT il<|cs O O O B<|aj 1858 O<|ba q fun x6 h7 q=>rS<|cM<|cU O B<|cP (rP O h7 (aJ.cons (aT O) aJ.nil))<|cA<|aj 1922 O<|rS<|cM<|cP (db (aT O) aI)<|aj 264066 O<|gc O q (fun X q=>rS<|cM<|cA<|cF [4] O<|al (eS q O)) fun X q=>ai (ar (ba q fun x9 kB q=>by exact rK<|cH O kB<|cO (oM O)<|aj 1794 O (cm q O)))) fun hb3 q=>aN<|ar<|rS<|cI<|cF [4] O<|al (eS q O))
def jW{a0 a1 r}(q:bD a0 a1=some r):cw 284 [TS a0,TS a1] [aZ r]:=
 dp func284 O ax<|rS<|cB<|aj 3 O<|kO q fun x1 h2 q=>rS<|cM<|cP (fR V (aT O))<|cM<|cP (fR V (aT O))<|cP (kg (aT O) (aT O))<|cM<|gV O O (ov 0 O on) (fun rD=>oM O)<|gV O O (ov 1 O on) (fun hg2=>oM O)<|gV O O (oo 12 O id on) (fun M=>fR V (aT O))<|gV O O (oo 11 O id (oo 13 O id on)) (fun wa=>gK V (aT O) Lo.none (Lo.some (aT O)) (h2 wa))<|gV O O (ov 1 O on) (fun zW=>oM O)<|gV O O (oo 14 O id (oo 15 O id on)) (fun Bm=>vE (aT O) (aT O))<|cP (dI (aT O) O j6)<|cA<|cF [4] O<|al (eS q O)
def tK{a0 a1 r}(q:ik a0 a1=some r):cw 210 [TS a0,TS a1] [TS r.1,aZ r.2]:=
 dp func210 O ax<|rS<|cP (aC (Arg.s O))<|cB<|aj 3 O<|ae<|ba q fun x1 h2 q=>rS<|cM<|cM<|cC (jW h2) O<|cP (iN (aT O))<|aj 515 O<|gc O q (fun hb3 q=>rS<|cM<|cA<|cB<|aj 48 O<|by cases q;exact al (r2 O)) fun hb3 q=>ai (ar (ba q fun x4 h5 q=>rS<|cM<|cM<|cP (fR V (aT O))<|cP (gK V (aT O) (Lo.some (aT O)) Lo.none h5)<|cA<|cB<|aj 48 O<|by cases q;exact al (r2 O)))
def F6{a0 a1 r}(q:hZ a0 a1=some r):cw 139 [TS a0,TS a1] [TS r.1,aZ r.2]:=
 dp func139 O ax<|rS<|cP (aC (Arg.s O))<|cB<|aj 3 O<|ba q fun x1 h2 q=>rS<|cM<|cM<|cC (tK h2) O<|cE<|cE<|cA<|cA<|aj 48 O<|by cases q;exact al (r2 O)
def Nq{a0 r}(q:tY a0=some r):cw 211 [TS a0] [aZ r]:=
 dp func211 O ax<|rS<|cB<|aj 1 O<|ae<|rS<|cM<|cP (fR V (aT O))<|cN<|aj 97 O<|ah<|jE [0,5] O (σ:=Int) (fun s1=>[(6,.val (TiZ s1))]) q O (fun k2 s1 q=>by exact rS<|cL O O<|aj 225 O<|ae<|gc O q (fun hb3 q=>ai<|ar<|ae<|ah<|rS<|cM<|cA<|aj 105 O<|ba q fun x4 h5 q=>kO q fun x6 h7 q=>rS<|cM<|cM<|cP (qD V (aT O) (aT O) h5)<|cP (eJ (aT O) aI)<|cM<|gV O O (ov 0 O on) (fun rD=>oM O)<|gV O O (ov 3 O on) (fun hg2=>oM O)<|gV O O (oo 14 O id (oo 15 O id on)) (fun M=>qD V (aT O) (aT O) (h7 M))<|gV O O (oo 16 O id on) (fun wa=>da (aT O) aI)<|cP (fH (aT O) O jN)<|aj 262241 O<|gc O q (fun X q=>rS<|cB<|aj 4 O<|al (eS q O)) fun X q=>ai (ar (ba q fun x9 kB q=>by exact rK<|cH O kB<|cO (oM O)<|aj 97 O (cm q O)))) fun hb3 q=>aN<|ar<|rS<|cM<|cP (Oq (aT O) (Arg.s O))<|cA<|aj 4 O<|al (eS q O))
def Gm{a0 r}(q:ny a0=some r):cw 140 [TS a0] [aZ r]:=
 dp func140 O ax<|rS<|cB<|aj 1 O<|ba q fun x1 h2 q=>kO q fun x3 h4 q=>rS<|cM<|cC (Nq h2) O<|cM<|gV O O (ov 0 O on) (fun rD=>oM O)<|gV O O (oo 6 O id on) (fun hg2=>vE (aT O) (Arg.s O))<|gV O O (oo 7 O id on) (fun M=>oM O)<|gO O O (ov 0 O on) (fun wa=>oM O)<|gO O O (oo 9 O id on) (fun zW=>qD V (aT O) aI (h4 zW))<|gO O O (oo 10 O id on) (fun Bm=>db (aT O) aI)<|gV O O (oo 8 O id (ov 11 O on)) (fun Hp=>fH (aT O) O (fun h=>E9 (id Hp) (jN h)))<|cP (dI (aT O) O j6)<|cA<|aj 4 O<|al (eS q O)
def F5{a0 a1 r}(q:ri a0 a1=some r):cw 214 [TS a0,TS a1] [aZ r]:=
 dp func214 O ax<|rS<|cB<|aj 3 O<|ba q fun x1 h2 q=>rS<|cM<|cM<|cC (jW h2) O<|cA<|cF [4] O<|al (eS q O)
def tz{a0 a1 r}(q:fI a0 a1=some r):cw 286 [TS a0,TS a1] [TS r]:=
 dp func286 O ax<|rS<|cP (aC (Arg.s O))<|aj 3 O<|ae<|ba q fun x1 h2 q=>rS<|cM<|cM<|cC (jW h2) O<|aj 131 O<|gc O q (fun hb3 q=>ba q fun x4 h5 q=>rS<|cM<|cM<|cP (fR V (aT O))<|cP (gK V (aT O) (Lo.some (aT O)) Lo.none h5)<|cA<|cF [4] O<|al (eS q O)) fun hb3 q=>ai<|ar<|rS<|cM<|cA<|cF [4] O<|al (eS q O)
def wO{a0 a1 r}(q:iu a0 a1=some r):cw 215 [TS a0,TS a1] [TS r]:=
 dp func215 O ax<|rS<|cP (aC (Arg.s O))<|aj 3 O<|ba q fun x1 h2 q=>rS<|cM<|cM<|cC (tz h2) O<|cA<|cF [4] O<|al (eS q O)
def D3{a0 r}(q:p8 a0=some r):cw 130 [TiZ a0] [a7 r]:=by
 unfold p8 at q;exact dp func130 O ax<|rS<|cT gT<|aj 5 O<|rS<|cM<|cP (bB gT vv O)<|cs O O O m<|aj 4 O<|al (mE q O m)
def G0{a0 r}(q:vN a0=some r):cw 257 [TiZ a0] [(TI .u64) r]:=
 dp func257 O ax<|rS<|cI<|aj 1 O<|ae<|rS<|cM<|cP (eJ (aT O) aI)<|aj 17 O<|gc O q (fun hb1 q=>rS<|cM<|cP (acq (aT O))<|cP (wW Lv FR (aT O))<|cA<|aj 4 O<|al (eS q O)) fun hb1 q=>ai<|ar<|rS<|cM<|cP (wW Lv FR (aT O))<|cA<|aj 4 O<|al (eS q O)
def jl{a0 r}(q:gq a0=some r):cw 250 [a7 a0] [aZ r.1,(TL (TI .u64)) r.2]:=
 dp func250 O ax<|rS<|cX<|cB<|cP (aC (Arg.nn (f:=(TI .u64))))<|aj 2 O<|ae<|ah<|rS<|jt 1 O oI O zP<|cP (aiD eL (aT O))<|cA<|aj 18 O<|gc O q (fun hb1 q=>gE 7 mixed<|dQ 0 O gY O C<|dP [9] O (eJ (aT O) aI)<|dQ 1 O oI O zP<|dP [10] O (oA O)<|dP [12] O (oA O)<|dN<|dE [2,3] O ax<|cD<|by cases q;exact al (fL (VP (t:=3) O) (gp O O (bu.tmp O O (bu.tmp O O bu.nil))))) fun hb1 q=>rS<|jt 0 O gY O C<|cP (dv (aT O) aI)<|cA<|aj 8194 O<|gc O q (fun hb2 q=>rS<|cB<|cP (aC (Arg.nn (f:=(TI .u64))))<|aj 12 O<|by cases q;exact al (fL (VP (t:=3) O) (gp O O (bu.tmp O O (bu.tmp O O bu.nil))))) fun hb2 q=>ai (ar (ba q fun x3 h4 q=>gE 9 mixed<|dQ 0 O gY O C<|dP [18] O (eJ (aT O) aI)<|dQ 0 O gY O C<|dP [21] O (oC (G0 h4) O)<|dP [22] O (tm (s':= .val (TL (TI .u64) ([x3]:asv Int))) (bS yf aed O O) O)<|dP [19] O (oA O)<|dP [23] O (oA O)<|dN<|dE [2,3] O ax<|cD<|by cases q;exact al (r2 O)))
def pO{a0 r}(q:mr a0=some r):cw 323 [(TL (TI .u64)) a0] [(TL (TI .u64)) r]:=
 dp func323 O ax<|rS<|cP (aC (Arg.nn (f:=(TI .u64))))<|aj 1 O<|rS<|cM<|cJ eL O<|cA<|aj 9 O<|ae<|ah<|jE [0] O (σ:=Int) (fun s1=>[(3,.val (TiZ s1))]) q O (fun k2 s1 q=>by exact ae<|kO q fun x3 h4 q=>kO q fun x5 h6 q=>rS<|cM<|cP (da (aT O) aI)<|cM<|gV O O (ov 0 O on) (fun rD=>oM O)<|gV O O (ov 3 O on) (fun hg2=>oM O)<|gV O O (oo 10 O id on) (fun M=>bt (aT O) aI (h4 M))<|gV O O (oo 9 O id (oo 11 O id on)) (fun wa=>lO Z (eE O) (aT O) (aT O) (h6 wa))<|gV O O (oo 12 O id on) (fun zW=>aU (aT O) dY)<|gV O O (oo 13 O id on) (fun Bm=>dv (aT O) aI)<|cP (dI (aT O) O j6)<|aj 32777 O<|gc O q (fun Bn q=>ai<|ar<|ah<|ba q fun x8 h9 q=>by exact rK<|cM<|cP (bt (aT O) aI h9)<|cO (oA O)<|aj 9 O (cm q O)) fun Bn q=>aN (ar (ba q fun eF j5 q=>rS<|cM<|cM<|cP (tl Z (eE O) (aT O) Lo.none (Lo.some (aT O)) j5)<|cA<|aj 4 O<|al (eS q O))))
def Nv{a0 a1 r}(q:ub a0 a1=some r):cw 258 [(TL (TI .u64)) a0,(TL (TI .u64)) a1] [(TL (TI .u64)) r]:=by
 refine dp func258 O ax<| ?_
 refine rS<|cP (aC (Arg.nn (f:=(TI .u64))))<|aj 3 O ?_
 obtain⟨x1,h2,x3,h4,q⟩:=b2 q;refine rS<|cM<|cJ eL O<|cM<|cJ eL O<|cP (cg (aT O) (aT O) h2)<|cP (GH (TI .u64) aaj yf O (aT O) (aT O) h4)<|cS (bE O O (cq O) _ (Or.inl O))<|aj 35 O ?_
 refine ae<|rS<|cM<|cJ eL O<|cN<|aj 7340066 O ?_
 refine ah<|jE [1,20,21] O (σ:=asv Int×Int) (fun s5=>[(5,.buf 361 1 (lT (TI .u64) s5.1)),(22,.val (TiZ s5.2))]) q O (fun k6 s5 q=>?_)
 refine rS<|cL O O<|aj 15728674 O ?_
 refine ae<|gc O q (fun Bn q=>?_) fun Bn q=>?_
 ·refine ai<|ar<|ae<|ah ?_
  obtain⟨x8,h9,q⟩:=aA q;refine rS<|cM<|cP (oX Z (eE O) O O h9)<|cR O dY<|cA<|cA<|aj 7340258 O ?_
  refine rS<|cI<|aj 7340514 O ?_
  refine ae<|rS<|cM<|cJ eL O<|cN<|aj 946864610 O ?_
  refine ah<|jE [1,6,7,20,21,22,27,28] O (σ:=asv Int×Int×Int) (fun Ha=>[(5,.buf 361 1 (lT (TI .u64) Ha.1)),(8,.val (TI .u64 Ha.2.1)),(29,.val (TiZ Ha.2.2))]) q O (fun k11 Ha q=>?_)
  refine rS<|cL O O<|aj 2020606434 O ?_
  refine ae<|gc O q (fun KO q=>?_) fun KO q=>?_
  ·refine ai<|ar<|ae<|ah ?_
   obtain⟨jK,ot,q⟩:=aA q;refine rS<|cM<|cP (oX Z (eE O) O O ot)<|cR O dY<|cA<|cA<|aj 946866146 O ?_
   obtain⟨kH,S,q⟩:=aA q;refine rS<|cM<|cM<|cC (Mr S) O<|cZ<|cE<|cE<|cA<|cA<|aj 946871266 O ?_
   refine rS<|cI<|aj 946871266 O ?_
   obtain⟨jH,U,jR,Y,kL,uX,lD,xc,q⟩:=b4 q;refine rS<|cM<|cQ<|cM<|cM<|cP (cg (aT O) (aT O) U)<|cP (eK Z O O (aT O) Y)<|cP (pd (f:=(TI .u64)) (fun _=>O) O O (bH uX) dY)<|cP (A6 (Ci xc) (aJ.cons (aT O) (aJ.cons (aT O) (aJ.cons aI aJ.nil))))<|cZ<|cE<|cE<|cO (oA O)<|cA<|aj 946879458 O ?_
   refine rS<|cM<|cM<|cP (vF (aT O) (aT O))<|cO (oA O)<|aj 946871266 O ?_
   obtain⟨pt,Bo,q⟩:=aA q;refine rS<|cM<|cM<|cP (A6 (Ci Bo) (aJ.cons (aT O) (aJ.cons (aT O) (aJ.cons aI aJ.nil))))<|cZ<|cE<|cE<|cO (oA O)<|cA<|aj 946879202 O ?_
   obtain⟨pr,C4,xR,Gi,xl,EO,q⟩:=b3 q;refine rK<|cQ<|cM<|cM<|cP (cg (aT O) (aT O) C4)<|cM<|cM<|cM<|cP (vF (aT O) (aT O))<|cP (eK Z O O (aT O) Gi)<|cS (pS (f:=(TI .u64)) (fun _=>O) O O (bH EO) (aT O) dY)<|cA<|aj 946864610 O (ar ?_)
   obtain⟨xQ,Gh,q⟩:=aA q;exact rK<|cH O Gh<|cO (oM O)<|aj 946864610 O (cm q O)
  ·refine aN (ar ?_);obtain⟨uT,Hx,yS,KQ,uQ,Hw,q⟩:=b3 q;refine rK<|cQ<|cM<|cM<|cJ eL O<|cP (cg (aT O) (aT O) Hx)<|cM<|cP (eK Z O O (aT O) KQ)<|cS (pS (f:=(TI .u64)) (fun _=>O) O O (bH Hw) (aT O) dY)<|aj 7340066 O (ar ?_)
   obtain⟨Bw,Mg,q⟩:=aA q;exact rK<|cH O Mg<|cO (oM O)<|aj 7340066 O (cm q O)
 ·refine aN (ar ?_);obtain⟨B8,Qr,q⟩:=aA q;refine rS<|cQ<|cG (iM (t:=5) O)<|cG (km (s:=78) O O)<|cC (pO Qr) O<|cA<|cF [4] O ?_
  cases q;exact al (r1 O)
def sM{a0 a1 r}(q:nA a0 a1=some r):cw 251 [aZ a0,(TL (TI .u64)) a1] [a7 r]:=
 dp func251 O ax<|rS<|cT gT<|aj 19 O<|ae<|ah<|rS<|cM<|cJ eL O<|cP (dv (aT O) aI)<|cA<|aj 51 O<|gc O q (fun hb1 q=>rS<|cP (bB gT vv O)<|cs O O O m<|cF [4] O<|al (mE q O m)) fun hb1 q=>kO q fun x2 h3 q=>rS<|cM<|cJ eL O<|cP (dv (aT O) aI)<|cM<|gV O O (ov 1 O on) (fun rD=>oM O)<|gV O O (oo 15 O id on) (fun hg2=>lO Z (eE O) (aT O) aI (h3 hg2))<|gV O O (oo 16 O id on) (fun M=>aU (aT O) dY)<|gV O O (oo 17 O id on) (fun wa=>vC (aT O) aI)<|cP (dI (aT O) O j6)<|cM<|gV O O (ov 0 O on) (fun zW=>oM O)<|cP (dI (aT O) O j6)<|cA<|aj 1043 O<|gc O q (fun Md q=>jU q fun x5 h6 x7 h8 q=>rS<|cM<|cP (lO Z (eE O) (aT O) aI h6)<|cR O dY<|cP (wW FR Lv (aT O))<|cP (Fq (aT O) h8)<|cP (bB gT vv O)<|cs O O O m<|cF [4] O<|al (mE q O m)) fun Md q=>kO q fun x9 kB q=>rS<|cM<|cJ eL O<|cP (dv (aT O) aI)<|cM<|gV O O (ov 1 O on) (fun Bm=>oM O)<|gV O O (oo 34 O id on) (fun Hp=>lO Z (eE O) (aT O) aI (kB Hp))<|gV O O (oo 35 O id on) (fun Na=>aU (aT O) dY)<|gV O O (oo 36 O id on) (fun PR=>vC (aT O) aI)<|cP (dI (aT O) O j6)<|cA<|cF [0,1,4,29] O<|gc O q (fun KP q=>ba q fun fJ lK q=>rS<|cM<|cP (lO Z (eE O) (aT O) aI lK)<|cR O dY<|cP (wW FR Lv (aT O))<|cP (bB gT vv O)<|cs O O O m<|cF [4] O<|al (mE q O m)) fun KP q=>rS<|cM<|cA<|cF [1,4,44] O<|gc O q (fun SV q=>gcI q fun mF q=>rS<|cM<|cP (Ey gT vv (fO.cons (i:=0) aI O O (fO.cons (i:=1) ((aT O).imp (VI (not_true mF))) O O fO.nil)))<|cs O O O m<|cF [4] O<|al (mE q O m)) fun SV q=>ai (ar (gcI q fun S q=>rS<|cM<|cP (Ey gT vv (fO.cons (i:=0) aI O O (fO.cons (i:=1) ((aT O).imp (VI (not_true S))) O O fO.nil)))<|cs O O O m<|cF [4] O<|al (mE q O m)))
def wk{a0 a1 r}(q:nB a0 a1=some r):cw 178 [a7 a0,a7 a1] [a7 r]:=
 dp func178 O ax<|rS<|cX<|cX<|cT gT<|aj 28 O<|ae<|rS<|jt 1 O oI O zP<|cP (rf eL (aT O))<|cM<|gV O O (ov 3 O on) (fun rD=>aO O oI)<|gV O O (oo 15 O id (ov 3 O on)) (fun hg2=>oP 1 O O zP)<|gV O O (oo 16 O id on) (fun M=>rf eL (aT O))<|cP (dI (aT O) O j6)<|aj 262172 O<|uS [2,3] O (α:=(Int×asv Int)) (fun s1=>[(4,.own 98 (a7 s1))]) q (fun k2 q=>by exact gc O q (fun hb3 q=>oK q fun x4 h5 x6 h7 x8 h9 q=>gE 12 mixed<|dQ 0 O gY O C<|dP [21] O (oC (G0 h5) O)<|dQ 0 O gY O C<|dP [24] O (oC (G0 h7) O)<|dP [22,25] O (oC (Mr h9) O)<|dP [26] O (wV O)<|dP [19] O (dW O O)<|dP [19] O (dW O O)<|dP [27] O (oA O)<|dP [28] O (oA O)<|dN<|dE [2,3,4,5,6] O ax<|cD<|rS<|cM<|cP (dv (aT O) aI)<|cM<|gV O O (ov 6 O on) (fun wa=>oM O)<|gV O O (oo 32 O id on) (fun zW=>vC (aT O) aI)<|cP (dI (aT O) O j6)<|cF [2,3,4,6,34] O<|gc O q (fun xI q=>ae<|rS<|jt 0 O gY O C<|cP (eJ (aT O) aI)<|jt 0 O gY O C<|cP (eJ (aT O) aI)<|cP (R7 FP (aT O) (aT O))<|cF [4,6,41] O<|gc O q (fun KP q=>ba q fun fJ lK q=>rS<|cM<|cP (wW FR Lv (aT O))<|cP (Fq (aT O) lK)<|cP (bB gT vv O)<|cs O O O m<|cF [4] O<|al (mE q O m)) fun KP q=>ai<|ar<|rS<|cM<|cP (wW FR Lv (aT O))<|cP (bB gT vv O)<|cs O O O m<|cF [4] O<|al (mE q O m)) fun xI q=>ai (cm q O)) fun hb3 q=>ai (cm q O)) (fun s1 q=>by exact ar<|ba q fun gH mF q=>rS<|cU O m<|cC (jl mF) O<|cZ<|cE<|cE<|cA<|cA<|aj 408 O<|ba q fun ib Q q=>rS<|cU O m<|cC (jl Q) O<|cZ<|cE<|cE<|cA<|cA<|aj 1936 O<|jU q fun jG qt lN h21 q=>rS<|cM<|cM<|cP (R7 FP (aT O) (aT O))<|cM<|cM<|cC (Nv qt) O<|cC (sM h21) O<|cs O O O m<|cF [4] O<|al (mE q O m))
def P4{a0 a1 r}(q:r8 a0 a1=some r):cw 217 [a7 a0,TiZ a1] [a7 r]:=
 dp func217 O ax<|rS<|cX<|cT gT<|aj 22 O<|ba q fun x1 h2 q=>rS<|cC (D3 h2) O<|cT gT<|cs O O O m<|aj 54 O<|ae<|ah<|jE [4] O (σ:=Int×(Int×asv Int)×(Int×asv Int)) (fun s3=>[(1,.val (TiZ s3.1)),(2,.own 98 (a7 s3.2.1)),(5,.own 98 (a7 s3.2.2))]) q O (fun k4 s3 q=>by exact ae<|rS<|cM<|cP (da (aT O) aI)<|aj 310 O<|gc O q (fun DH q=>ai<|ar<|ae<|uS [1,4] O (α:=(Int×asv Int)×(Int×asv Int)) (fun s6=>[(2,.own 98 (a7 s6.1)),(5,.own 98 (a7 s6.2))]) q (fun k7 q=>by exact ah<|ae<|rS<|cM<|cP (Sf (aT O) aI)<|cP (dv (aT O) aI)<|aj 8246 O<|uS [1,2,4] O (α:=(Int×asv Int)) (fun s8=>[(5,.own 98 (a7 s8))]) q (fun k9 q=>by exact gc O q (fun xI q=>ba q fun iY qS q=>by exact rK<|cU O m<|cU O m<|cC (wk qS) O<|cs O O O m<|aj 54 O (cm q O)) fun xI q=>ai (cm q O)) (fun s8 q=>by exact ar<|rS<|cM<|cP (da (aT O) aI)<|aj 262198 O<|gc O q (fun KN q=>ba q fun gH mF q=>by exact rK<|cU O m<|cU O m<|cC (wk mF) O<|cs O O O m<|aj 54 O (cm q O)) fun KN q=>ai (cm q O))) (fun s6 q=>by exact ar<|ba q fun ib Q q=>by exact rK<|cM<|cP (Hd (aT O) aI Q)<|cO (oA O)<|aj 54 O (cm q O))) fun DH q=>aN<|ar<|rS<|cU O m<|cs O O O m<|cF [4] O<|al (mE q O m))
def Nx{a0 a1 r}(q:p7 a0 a1=some r):cw 252 [(TL (TI .u64)) a0,(TL (TI .u64)) a1] [(TL (TI .u64)) r]:=by
 unfold p7 at q;refine dp func252 O ax<| ?_
 refine rS<|cP (aC (Arg.nn (f:=(TI .u64))))<|aj 3 O ?_
 refine ae<|rS<|cM<|cJ eL O<|cM<|cJ eL O<|cL O O<|aj 8195 O ?_
 refine ER (α:=asv Int×asv Int) (fun s1=>[(0,.val (TL (TI .u64) s1.1)),(1,.val (TL (TI .u64) s1.2))]) q (fun k2 q=>?_) (fun s1 q=>?_)
 ·refine gc O q (fun hb3 q=>?_) fun hb3 q=>?_
  ·exact rK<|cM<|cM<|cO (oA O)<|cO (oA O)<|aj 3 O (cm q O)
  ·exact ai (cm q O)
 ·refine ar ?_;obtain⟨x4,h5,x6,h7,q⟩:=b2 q;refine rS<|cM<|cJ eL O<|cH O h5<|cP (GH (TI .u64) aaj yf O (aT O) (aT O) h7)<|cS (bE O O (cq O) _ (Or.inl O))<|aj 35 O ?_
  refine rS<|cI<|aj 99 O ?_
  refine ae<|rS<|cM<|cJ eL O<|cN<|aj 6291555 O ?_
  refine ah<|jE [0,1,21] O (σ:=asv Int×Int×Int) (fun s8=>[(5,.buf 361 1 (lT (TI .u64) s8.1)),(6,.val (TI .u64 s8.2.1)),(22,.val (TiZ s8.2.2))]) q O (fun k9 s8 q=>?_)
  refine rS<|cL O O<|aj 14680163 O ?_
  refine ae<|gc O q (fun xI q=>?_) fun xI q=>?_
  ·refine ai<|ar<|ae<|ah<|rS<|cM<|cA<|aj 6291683 O ?_
   refine rS<|cI<|aj 6291939 O ?_
   refine ae<|rS<|cM<|cM<|cJ eL O<|cL O O<|aj 274727395 O ?_
   refine uS [0,1,5,6,7,21,22] O (α:=Int) (fun Dr=>[(8,.val (TI .u64 Dr))]) q (fun JD q=>?_) (fun Dr q=>?_)
   ·refine gc O q (fun KN q=>?_) fun KN q=>?_
    ·obtain⟨gH,mF,q⟩:=aA q;exact rK<|cM<|cM<|cP (oX Z (eE O) O O mF)<|cR O dY<|cO (oA O)<|aj 6291939 O (cm q O)
    ·exact ai (cm q O)
   ·refine ar ?_;obtain⟨ib,Q,jG,qt,lN,h21,nZ,DJ,q⟩:=b4 q;refine rK<|cQ<|cM<|cM<|cM<|cP (oX Z (eE O) O O Q)<|cR O dY<|cM<|cM<|cP (A6 (Ci qt) (aJ.cons (aT O) (aJ.cons (aT O) (aJ.cons (aT O) aJ.nil))))<|cZ<|cE<|cE<|cP (eK Z O O (aT O) h21)<|cS (pS (f:=(TI .u64)) (fun _=>O) O O (bH DJ) (aT O) dY)<|cO (oA O)<|aj 6291555 O (ar ?_)
    obtain⟨uR,JL,q⟩:=aA q;exact rK<|cH O JL<|cO (oM O)<|aj 6291555 O (cm q O)
  ·refine aN (ar ?_);obtain⟨AS,KS,rA,Hy,q⟩:=b2 q;refine rS<|cQ<|cM<|cJ eL O<|cM<|cP (eK Z O O (aT O) KS)<|cS (pS (f:=(TI .u64)) (fun _=>O) O O (bH Hy) (aT O) dY)<|cF [5] O ?_
   obtain⟨sv,DI,q⟩:=aA q;refine rS<|cQ<|cG (iM (t:=5) O)<|cG (km (s:=52) O O)<|cC (pO DI) O<|cA<|cF [4] O ?_
   cases q;exact al (r1 O)
def yY{a0 a1 r}(q:mu a0 a1=some r):cw 253 [(TL (TI .u64)) a0,(TL (TI .u64)) a1] [TiZ r]:=
 dp func253 O ax<|rS<|cI<|aj 3 O<|ae<|rS<|cM<|cJ eL O<|cM<|cJ eL O<|cP (db (aT O) (aT O))<|aj 1027 O<|gc O q (fun hb1 q=>ae<|rS<|cM<|cJ eL O<|cM<|cJ eL O<|cL O O<|cF [15] O<|gc O q (fun hb2 q=>rS<|cI<|cF [4] O<|al (eS q O)) fun hb2 q=>ai<|ar<|rS<|cI<|cF [4] O<|al (eS q O)) fun hb1 q=>ai<|ar<|ae<|ba q fun x3 h4 q=>rS<|cM<|cJ eL O<|cP (bt (aT O) aI h4)<|cA<|aj 35 O<|ah<|jE [0,1] O (σ:=Int) (fun s5=>[(5,.val (TiZ s5))]) q O (fun k6 s5 q=>by exact ae<|rS<|cM<|cP (kg (aT O) aI)<|aj 1048611 O<|gc O q (fun Bn q=>ai<|ar<|ae<|ah<|jU q fun x8 h9 eF j5 q=>gE 9 mixed<|dP [0] O (oM O)<|dP [5] O (oM O)<|dP [23,24] O (oX Z (eE O) O O h9)<|dP [25] O (aU (aT O) dY)<|dP [1] O (oM O)<|dP [5] O (oM O)<|dP [27,28] O (oX Z (eE O) O O j5)<|dP [29] O (aU (aT O) dY)<|dP [26,30] O (db (aT O) (aT O))<|dN<|dE [0,1,5,31] O ax<|cD<|gc O q (fun KO q=>ae<|jU q fun jK ot kH S q=>gE 9 mixed<|dP [0] O (oM O)<|dP [5] O (oM O)<|dP [32,33] O (oX Z (eE O) O O ot)<|dP [34] O (aU (aT O) dY)<|dP [1] O (oM O)<|dP [5] O (oM O)<|dP [36,37] O (oX Z (eE O) O O S)<|dP [38] O (aU (aT O) dY)<|dP [35,39] O (eJ (aT O) (aT O))<|dN<|dE [40] O ax<|cD<|gc O q (fun Hu q=>rS<|cI<|cF [4] O<|al (eS q O)) fun Hu q=>ai<|ar<|rS<|cI<|cF [4] O<|al (eS q O)) fun KO q=>ai (ar (ba q fun jG qt q=>by exact rK<|cM<|cP (bt (aT O) aI qt)<|cO (oA O)<|aj 35 O (cm q O)))) fun Bn q=>aN<|ar<|rS<|cI<|cF [4] O<|al (eS q O))
def D2{a0 a1 r}(q:p6 a0 a1=some r):cw 254 [(TL (TI .u64)) a0,(TL (TI .u64)) a1] [(TL (TI .u64)) r]:=by
 refine dp func254 O ax<| ?_
 refine rS<|cP (aC (Arg.nn (f:=(TI .u64))))<|aj 3 O ?_
 obtain⟨x1,h2,q⟩:=aA q;refine rS<|cM<|cJ eL O<|cP (GH (TI .u64) aaj yf O (aT O) (aT O) h2)<|cS (bE O O (cq O) _ (Or.inl O))<|aj 35 O ?_
 refine rS<|cI<|aj 99 O ?_
 refine ae<|rS<|cM<|cJ eL O<|cN<|aj 24675 O ?_
 refine ah<|jE [0,1,13] O (σ:=asv Int×Int×Int) (fun s3=>[(5,.buf 361 1 (lT (TI .u64) s3.1)),(6,.val (TI .u64 s3.2.1)),(14,.val (TiZ s3.2.2))]) q O (fun k4 s3 q=>?_)
 refine rS<|cL O O<|aj 57443 O ?_
 refine ae<|gc O q (fun DH q=>?_) fun DH q=>?_
 ·refine ai<|ar<|ae<|ah<|rS<|cM<|cA<|aj 24803 O ?_
  refine rS<|cI<|aj 25059 O ?_
  refine ae<|rS<|cM<|cM<|cJ eL O<|cL O O<|aj 1073635 O ?_
  refine uS [0,1,5,6,7,13,14] O (α:=Int) (fun s6=>[(8,.val (TI .u64 s6))]) q (fun k7 q=>?_) (fun s6 q=>?_)
  ·refine gc O q (fun X q=>?_) fun X q=>?_
   ·obtain⟨x9,kB,q⟩:=aA q;exact rK<|cM<|cM<|cP (oX Z (eE O) O O kB)<|cR O dY<|cO (oA O)<|aj 25059 O (cm q O)
   ·exact ai (cm q O)
  ·refine ar ?_;obtain⟨iY,qS,jK,ot,kH,S,jH,U,q⟩:=b4 q;refine rK<|cQ<|cM<|cM<|cM<|cP (oX Z (eE O) O O qS)<|cR O dY<|cM<|cM<|cP (A6 (R0 ot) (aJ.cons (aT O) (aJ.cons (aT O) (aJ.cons (aT O) aJ.nil))))<|cZ<|cE<|cE<|cP (eK Z O O (aT O) S)<|cS (pS (f:=(TI .u64)) (fun _=>O) O O (bH U) (aT O) dY)<|cO (oA O)<|aj 24675 O (ar ?_)
   obtain⟨jR,Y,q⟩:=aA q;exact rK<|cH O Y<|cO (oM O)<|aj 24675 O (cm q O)
 ·refine aN (ar ?_);obtain⟨kL,uX,q⟩:=aA q;refine rS<|cQ<|cG (iM (t:=5) O)<|cG (km (s:=39) O O)<|cC (pO uX) O<|cA<|cF [4] O ?_
  cases q;exact al (r1 O)
def wm{a0 a1 r}(q:nC a0 a1=some r):cw 176 [a7 a0,a7 a1] [a7 r]:=
 dp func176 O ax<|rS<|cX<|cX<|cT gT<|aj 28 O<|ae<|rS<|jt 1 O oI O zP<|cP (rf eL (aT O))<|cM<|gV O O (ov 3 O on) (fun rD=>aO O oI)<|gV O O (oo 14 O id (ov 3 O on)) (fun hg2=>oP 1 O O zP)<|gV O O (oo 15 O id on) (fun M=>rf eL (aT O))<|cP (dI (aT O) O j6)<|aj 131100 O<|uS [2,3] O (α:=(Int×asv Int)) (fun s1=>[(4,.own 98 (a7 s1))]) q (fun k2 q=>by exact gc O q (fun hb3 q=>rS<|jt 0 O gY O C<|jt 0 O gY O C<|cP (vF (aT O) (aT O))<|cA<|aj 60 O<|rS<|cM<|jt 0 O gY O C<|cP (da (aT O) (aT O))<|jt 0 O gY O C<|cP (da (aT O) aI)<|cP (Se FP (aT O) (aT O))<|aj 1073741884 O<|gc O q (fun Md q=>rS<|cM<|cP (bB gT vv O)<|cs O O O m<|cF [4] O<|al (mE q O m)) fun Md q=>ai (cm q O)) fun hb3 q=>ai (cm q O)) (fun s1 q=>by exact ar<|ba q fun x5 h6 q=>rS<|cU O m<|cC (jl h6) O<|cZ<|cE<|cE<|cA<|cA<|aj 216 O<|ba q fun x7 h8 q=>rS<|cU O m<|cC (jl h8) O<|cZ<|cE<|cE<|cA<|cA<|aj 976 O<|ae<|ah<|rS<|cM<|cM<|cP (Se FP (aT O) (aT O))<|cA<|cF [4,6,7,8,9,43] O<|gc O q (fun OZ q=>jU q fun eF j5 fJ lK q=>rS<|cM<|cM<|cM<|cC (Nx j5) O<|cC (sM lK) O<|cs O O O m<|cF [4] O<|al (mE q O m)) fun OZ q=>ba q fun gH mF q=>rS<|cM<|cM<|cC (yY mF) O<|cP (kg (aT O) aI)<|cA<|cF [4,6,7,8,9,52] O<|gc O q (fun Hv q=>jU q fun jH U jR Y q=>rS<|cM<|cM<|cM<|cC (D2 U) O<|cC (sM Y) O<|cs O O O m<|cF [4] O<|al (mE q O m)) fun Hv q=>ai (ar (jU q fun kL uX lD xc q=>rS<|cM<|cM<|cM<|cC (D2 uX) O<|cC (sM xc) O<|cs O O O m<|cF [4] O<|al (mE q O m))))
def lU{a0 r}(q:jg a0=some r):cw 174 [a7 a0] [a7 r]:=
 dp func174 O ax<|rS<|cX<|cT gT<|aj 6 O<|ae<|rS<|jt 1 O oI O zP<|cP (rf eL (aT O))<|cM<|gV O O (ov 1 O on) (fun rD=>aO O gY)<|gV O O (oo 9 O id (ov 1 O on)) (fun hg2=>oP 0 O O C)<|gV O O (oo 10 O id on) (fun M=>db (aT O) aI)<|cP (dI (aT O) O j6)<|aj 4102 O<|gc O q (fun hb1 q=>ba q fun x2 h3 q=>rS<|jt 0 O gY O C<|cP (Fq (aT O) h3)<|cP (bB gT vv O)<|cs O O O m<|aj 4 O<|al (mE q O m)) fun hb1 q=>ai (ar (ba q fun x4 h5 q=>rS<|cU O m<|cC (jl h5) O<|cZ<|cE<|cE<|cA<|cA<|aj 28 O<|ba q fun x6 h7 q=>rS<|cM<|cP (iN (aT O))<|cM<|cC (sM h7) O<|cs O O O m<|aj 4 O<|al (mE q O m)))
def V5{a0 r}(q:CA a0=some r):cw 142 [TS a0] [a7 r]:=
 dp func142 O ax<|rS<|cT gT<|aj 5 O<|ba q fun x1 h2 q=>rS<|cM<|cP (fS (F5 h2) (aJ.cons (aT O) (aJ.cons (Arg.s O) aJ.nil)))<|cA<|aj 13 O<|ba q fun x3 h4 q=>rS<|cM<|cP (fS (wO h4) (aJ.cons (aT O) (aJ.cons (Arg.s O) aJ.nil)))<|cO (oA O)<|aj 13 O<|rS<|cP (bB gT vv O)<|cT gT<|cs O O O m<|aj 29 O<|ae<|ah<|jE [2,3] O (σ:=aev×(Int×asv Int)) (fun s5=>[(0,.val (TS s5.1)),(4,.own 98 (a7 s5.2))]) q O (fun k6 s5 q=>by exact ae<|rS<|cM<|cP (fR V (aT O))<|cP (da (aT O) aI)<|aj 32797 O<|gc O q (fun Bn q=>ai<|ar<|ah<|rS<|cM<|cP (fR V (aT O))<|cP (Yg aI (aT O))<|cA<|aj 61 O<|jU q fun x8 h9 eF j5 q=>rS<|cM<|cM<|cP (gK V (aT O) Lo.none (Lo.some (aT O)) h9)<|cC (aiv j5) O<|cZ<|cE<|cE<|cA<|cA<|aj 125 O<|Ts q fun fJ lK gH mF ib Q jG qt lN h21 q=>gE 9 mixed<|dP [4] O (ab O m)<|dP [] O (oC (D3 lK) O)<|dP [5] O (oM O)<|dP [27,28] O (oC (P4 mF) O)<|dP [26,29] O (oC (wk Q) O)<|dP [6] O (oM O)<|dP [31] O (oC (D3 qt) O)<|dP [30,32] O (oC (wm h21) O)<|dS [4,33] O (ds O O O m)<|dN<|dE [0,2,3,4,5] O ax<|cD<|ba q fun nZ DJ q=>by exact rK<|cM<|cM<|cP (gK V (aT O) (Lo.some (aT O)) Lo.none DJ)<|cO (oA O)<|aj 29 O (cm q O)) fun Bn q=>aN<|ar<|ae<|rS<|cM<|cF [2,4,37] O<|gc O q (fun O1 q=>ba q fun pt Bo q=>rS<|cU O m<|cC (lU Bo) O<|cs O O O m<|aj 4 O<|al (mE q O m)) fun O1 q=>ai<|ar<|rS<|cU O m<|cs O O O m<|aj 4 O<|al (mE q O m))
def AY{a0 r}(q:r9 a0=some r):cw 212 [a7 a0] [a7 r]:=
 dp func212 O ax<|rS<|cX<|cT gT<|aj 6 O<|ae<|rS<|jt 0 O gY O C<|cP (eJ (aT O) aI)<|aj 38 O<|gc O q (fun hb1 q=>ba q fun x2 h3 q=>rS<|cU O m<|cC (lU h3) O<|cs O O O m<|aj 4 O<|al (mE q O m)) fun hb1 q=>ai<|ar<|rS<|cU O m<|cs O O O m<|aj 4 O<|al (mE q O m)
def nK{a0 r}(q:j1 a0=some r):cw 128 [a7 a0] [TiZ r]:=by
 unfold j1 at q;exact dp func128 O ax<|rS<|cX<|cI<|aj 2 O<|rS<|jt 0 O gY O C<|cP (Yg aI (aT O))<|cP (R8 aI (aT O))<|cA<|aj 4 O<|al (eS q O)
end
end Trn
