/-
  Part of the proof of DrawMoves.
-/
import Derived.Test.YtokjddaclakenaaGreatDoorWa
set_option maxRecDepth 100000
set_option maxHeartbeats 20000000
set_option linter.all false
open Go Go.RowKit Go.Proofs Go.Proofs.Tryz
namespace Trn
section
variable[D:DR]
def Ae{a0 a1 a2 r}(q:ng a0 a1 a2=some r):cw 341 [(TI .u64) a0,(TI .u64) a1,(TI .u64) a2] [(TI .u64) r.1,(TI .u64) r.2]:=by
 refine dp func341 O ax<|rS<|cI<|cI<|aj 7 O<|ae<|rS<|cM<|cP (dv (aT O) aI)<|aj 1048583 O<|gc O q (fun hb1 q=>?_) fun hb1 q=>?_
 ·cases q
 ·refine ai<|ar<|ae<|rS<|cM<|cM<|cP (vC (aT O) (aT O))<|aj 16777223 O<|gc O q (fun hb2 q=>?_) fun hb2 q=>?_
  ·cases q
  ·refine ai<|ar<|ae<|rS<|cM<|cP (dv (aT O) aI)<|cF [0,1,2,27] O<|gc O q (fun hb3 q=>?_) fun hb3 q=>?_
   ·obtain⟨x4,h5,x6,h7,q⟩:=b2 q;refine gE 8 mixed<|dP [1] O (oM O)<|dP [2] O (oM O)<|dP [28,29] O (R6 (aT O) (aT O) h5)<|dP [1] O (oM O)<|dP [2] O (oM O)<|dP [31,32] O (nI (aT O) (aT O) h7)<|dP [30] O (oA O)<|dP [33] O (oA O)<|dN<|dE [6,7] O ax<|cD ?_
    cases q;exact al (r2 O)
   ·refine ai (ar ?_);obtain⟨x8,h9,q⟩:=aA q;refine rS<|cM<|cC (abX h9) O<|cP (wW Lv agt (aT O))<|cA<|aj 263 O ?_
    obtain⟨eF,j5,q⟩:=aA q;refine rS<|cM<|cM<|cP (On (aT O) (aT O) j5)<|cO (oA O)<|aj 263 O ?_
    obtain⟨fJ,lK,q⟩:=aA q;refine rS<|cM<|cP (Hd (aT O) aI lK)<|cA<|aj 775 O<|rS<|cM<|cP (Sf (aT O) aI)<|cA<|aj 1799 O ?_
    obtain⟨gH,mF,ib,Q,q⟩:=b2 q;refine rS<|cM<|cM<|cP (On (aT O) (aT O) mF)<|cM<|cM<|cP (A5 aI (aT O))<|cP (Hd (aT O) (aT O) Q)<|cP (Wv (aT O) (aT O))<|cA<|aj 3846 O ?_
    obtain⟨jG,qt,q⟩:=aA q;refine rS<|cM<|cM<|cP (On (aT O) (aT O) qt)<|cA<|aj 7940 O ?_
    obtain⟨lN,h21,q⟩:=aA q;refine rS<|cM<|cP (Hd (aT O) aI h21)<|cA<|aj 16132 O<|rS<|cM<|cP (Sf (aT O) aI)<|cA<|aj 28420 O ?_
    obtain⟨nZ,DJ,q⟩:=aA q;refine rS<|cM<|cM<|cP (R6 (aT O) (aT O) DJ)<|cA<|aj 61188 O<|rS<|cM<|cM<|cM<|cP (xu (aT O) (aT O))<|cP (A5 (aT O) (aT O))<|cA<|aj 126724 O<|ae<|uS [2,8,9,10,11,13,14] O (α:=Int) (fun s24=>[(15,.val (TI .u64 s24))]) q (fun k25 q=>?_) (fun s24 q=>?_)
    ·refine ah<|jE [2,8,9,10,11,13,14] O (σ:=Int×Int) (fun GD=>[(15,.val (TI .u64 GD.1)),(16,.val (TI .u64 GD.2))]) q O (fun WN GD q=>?_)
     refine ae<|rS<|cM<|cP (kg (aT O) aI)<|cM<|gV O O (ov 15 O on) (fun rD=>oM O)<|gV O O (ov 10 O on) (fun hg2=>oM O)<|gV O O (oo 70 O id (oo 71 O id on)) (fun M=>xu (aT O) (aT O))<|gV O O (ov 16 O on) (fun wa=>oM O)<|gV O O (oo 73 O id on) (fun zW=>xu aI (aT O))<|gV O O (ov 13 O on) (fun Bm=>oM O)<|gV O O (oo 74 O id (oo 75 O id on)) (fun Hp=>vF (aT O) (aT O))<|gV O O (oo 72 O id (oo 76 O id on)) (fun Na=>da (aT O) (aT O))<|cP (fH (aT O) O jN)<|aj 302231454903657293803268 O ?_
     refine gc O q (fun Xb q=>?_) fun Xb q=>?_
     ·refine ai<|ar<|ah<|rS<|cM<|cP (A5 (aT O) aI)<|cO (oA O)<|aj 126724 O<|rS<|cM<|cM<|cP (vF (aT O) (aT O))<|cO (oA O)<|aj 126724 O<|rS<|cM<|cP (kg (aT O) aI)<|aj 38685626227668133590724356 O<|gc O q (fun SU q=>?_) fun SU q=>?_
      ·exact aN (cm q O)
      ·exact ai (cm q O)
     ·exact aN (cm q O)
    ·refine ar ?_;refine rS<|cM<|cP (xu (aT O) aI)<|cM<|cP (vF (aT O) (aT O))<|cM<|cM<|cP (xu (aT O) (aT O))<|cP (A5 (aT O) (aT O))<|cA<|aj 182020 O ?_
     obtain⟨sv,DI,q⟩:=aA q;refine rS<|cM<|cM<|cP (R6 (aT O) (aT O) DI)<|cA<|aj 444164 O<|rS<|cM<|cM<|cM<|cP (xu (aT O) (aT O))<|cP (A5 (aT O) (aT O))<|cA<|aj 509700 O<|ae<|uS [2,8,14,15,17] O (α:=Int) (fun Wm=>[(18,.val (TI .u64 Wm))]) q (fun k33 q=>?_) (fun Wm q=>?_)
     ·refine ah<|jE [2,8,9,10,14,15,17] O (σ:=Int×Int) (fun Mt=>[(16,.val (TI .u64 Mt.1)),(18,.val (TI .u64 Mt.2))]) q O (fun k35 Mt q=>?_)
      refine ae<|rS<|cM<|cP (kg (aT O) aI)<|cM<|gV O O (ov 18 O on) (fun PR=>oM O)<|gV O O (ov 10 O on) (fun EN=>oM O)<|gV O O (oo 105 O id (oo 106 O id on)) (fun JI=>xu (aT O) (aT O))<|gV O O (ov 16 O on) (fun EM=>oM O)<|gV O O (oo 108 O id on) (fun Hq=>xu aI (aT O))<|gV O O (ov 14 O on) (fun Mc=>oM O)<|gV O O (oo 109 O id (oo 110 O id on)) (fun OY=>vF (aT O) (aT O))<|gV O O (oo 107 O id (oo 111 O id on)) (fun SR=>da (aT O) (aT O))<|cP (fH (aT O) O jN)<|cF [2,8,9,10,14,15,16,17,18,113] O ?_
      refine gc O q (fun ajv q=>?_) fun ajv q=>?_
      ·refine ai<|ar<|ah<|rS<|cM<|cP (A5 (aT O) aI)<|cO (oA O)<|aj 509700 O<|rS<|cM<|cM<|cP (vF (aT O) (aT O))<|cO (oA O)<|aj 509700 O<|rS<|cM<|cP (kg (aT O) aI)<|cF [2,8,9,10,14,15,16,17,18,120] O<|gc O q (fun adw q=>?_) fun adw q=>?_
       ·exact aN (cm q O)
       ·exact ai (cm q O)
      ·exact aN (cm q O)
     ·refine ar ?_;obtain⟨HW,Vj,q⟩:=aA q;refine rS<|cM<|cP (xu (aT O) aI)<|cM<|cP (vF (aT O) (aT O))<|cM<|cP (xu (aT O) aI)<|cM<|cP (vF (aT O) (aT O))<|cM<|cM<|cP (xu (aT O) (aT O))<|cP (A5 (aT O) (aT O))<|cM<|cP (Hd (aT O) (aT O) Vj)<|cA<|cA<|aj 192 O ?_
      cases q;exact al (r2 O)
def Gt{a0 a1 r}(q:rX a0 a1=some r):fC prog 343 [(TL (TI .u64)) a0,TiZ a1] (.fr 361 1 (lT (TI .u64) r)):=by
 refine dp func343 O ax<| ?_
 refine rS<|cP (bf (TI .u64) 361 1)<|aj 3 O ?_
 obtain⟨x1,h2,x3,h4,q⟩:=b2 q;refine rS<|cM<|cJ eL O<|cH O h2<|cP (GH (TI .u64) aaj yf O (aT O) (aT O) h4)<|cS (bE O O (cq O) _ (Or.inl O))<|aj 35 O ?_
 refine ae<|rS<|cM<|cJ eL O<|cN<|aj 28706 O ?_
 refine ah<|jE [1,12,13] O (σ:=asv Int×Int) (fun s5=>[(5,.buf 361 1 (lT (TI .u64) s5.1)),(14,.val (TiZ s5.2))]) q O (fun k6 s5 q=>?_)
 refine rS<|cL O O<|aj 61474 O ?_
 refine ae<|gc O q (fun Bn q=>?_) fun Bn q=>?_
 ·refine ai<|ar<|ae<|uS [1,12,13,14] O (α:=(asv Int)) (fun s8=>[(5,.buf 361 1 (lT (TI .u64) s8))]) q (fun k9 q=>?_) (fun s8 q=>?_)
  ·refine ah ?_;obtain⟨eF,j5,q⟩:=aA q;refine rS<|cM<|cP (oX Z (eE O) O O j5)<|cR O dY<|cA<|cA<|aj 28898 O ?_
   obtain⟨fJ,lK,gH,mF,ib,Q,jG,qt,lN,h21,q⟩:=b5 q;refine gE 10 mixed<|dP [5] O (fa)<|dP [6] O (oM O)<|dP [19,20,5] O (eK Z O O (aT O) lK)<|dP [21,5] O (pd (f:=(TI .u64)) (fun _=>O) O O (bH mF) dY)<|dP [7] O (oM O)<|dP [1] O (oM O)<|dP [23,24] O (On (aT O) (aT O) Q)<|dP [22,25] O (Wv (aT O) (aT O))<|dP [19,20,5] O (eK Z O O (aT O) qt)<|dS [26,27,5] O (RY (f:=(TI .u64)) (fun _=>O) O O (bH h21) (aT O) dY)<|dN<|dE [1,5,6,7,12,13,14] O ax<|cD ?_
   refine rS<|cM<|cP (da (aT O) aI)<|aj 536899810 O ?_
   refine gc O q (fun O3 q=>?_) fun O3 q=>?_
   ·obtain⟨lD,xc,pt,Bo,pr,C4,xR,Gi,xl,EO,q⟩:=b5 q;exact rK<|cQ<|cM<|cH O xc<|cM<|cM<|cP (bt aI (aT O) Bo)<|cP (Hd (aT O) (aT O) C4)<|cP (eK Z O O (aT O) Gi)<|cS (pS (f:=(TI .u64)) (fun _=>O) O O (bH EO) (aT O) dY)<|aj 28706 O (cm q O)
   ·exact ai (cm q O)
  ·refine ar ?_;obtain⟨xQ,Gh,q⟩:=aA q;exact rK<|cH O Gh<|cO (oM O)<|aj 28706 O (cm q O)
 ·refine aN<|ar<|rS<|cQ<|cS (TW O O O (cq O) _ (Or.inl O))<|cF [4] O ?_
  cases q;exact al (xL O O O O)
def V4{ps qs:asv aq6}{a0:asv Int}{a1:asv Int}{r:asv Int×Int}(q:Cz a0 a1=some r):gi prog 344 [] (.pb 361 ps qs (lT (TI .u64) a0)) (.pb 361 ps qs (lT (TI .u64) r.1)) [(TL (TI .u64)) a1] [(TI .u64) r.2]:=
 vY (N:=186) func344 O ntmps344 (by simp) aj7 O O fun w1 v w0 H0 hk=>by exact mz (sS [0,1,186] O)<|rS<|cI<|cF [0,1,186] O<|rS<|cM<|cJ eL O<|cA<|cF [0,1,5,186] O<|rS<|cI<|cI<|cF [0,1,5,186] O<|rS<|cI<|cF [0,1,5,8,186] O<|ae<|LF q fun x1 h2 x3 h4 x5 h6 x7 h8 q=>gE 10 mixed<|dP [0] O (fa)<|dP [5] O (oM O)<|dP [21,22,0] O (vD Z (eP.same O) O (aT O) h2)<|dP [23,0] O (Cp (f:=(TI .u64)) (fun _=>O) O O (bH h4) dY)<|dP [1] O (oM O)<|dP [5] O (oM O)<|dP [26] O (bt (aT O) aI h6)<|dP [25,27] O (oX Z (eE O) O O h8)<|dP [28] O (aU (aT O) dY)<|dP [24,29] O (kg (aT O) (aT O))<|dN<|dE [0,1,5,8,30,186] O ax<|cD<|uS [0,1,5,186] O (α:=Int×Int×Int) (fun s9=>[(6,.val (TI .u64 s9.1)),(7,.val (TI .u64 s9.2.1)),(8,.val (TI .u64 s9.2.2))]) q (fun PN q=>by exact gc O q (fun KP q=>rS<|cI<|cF [0,1,5,6,186] O<|S8 q fun fJ lK gH mF ib Q jG qt lN h21 nZ DJ q=>gD 16 mixed<|dP [0] O (fa)<|dP [5] O (oM O)<|dP [33] O (bt (aT O) aI lK)<|dP [32,34,0] O (vD Z (eP.same O) O (aT O) mF)<|dP [35,0] O (Cp (f:=(TI .u64)) (fun _=>O) O O (bH Q) dY)<|dP [1] O (oM O)<|dP [5] O (oM O)<|dP [38] O (bt (aT O) aI qt)<|dP [37,39] O (oX Z (eE O) O O h21)<|dP [40] O (aU (aT O) dY)<|dP [36,41] O (A6 (Ci DJ) (aJ.cons (aT O) (aJ.cons (aT O) (aJ.cons aI aJ.nil))))<|dP [42] O (wV O)<|dP [31] O (dW O O)<|dP [31] O (dW O O)<|dP [43] O (oA O)<|dP [44] O (oA O)<|dN<|dE [0,1,5,6,7,8,186] O ax<|cD (cm q O)) fun KP q=>S8 q fun uR JL AS KS rA Hy sv DI rz KR z8 O6 q=>jU q fun vk SX HW Vj q=>gD 20 mixed<|dP [0] O (fa)<|dP [5] O (oM O)<|dP [46,47,0] O (vD Z (eP.same O) O (aT O) JL)<|dP [48,0] O (Cp (f:=(TI .u64)) (fun _=>O) O O (bH KS) dY)<|dP [0] O (fa)<|dP [5] O (oM O)<|dP [51] O (bt (aT O) aI Hy)<|dP [50,52,0] O (vD Z (eP.same O) O (aT O) DI)<|dP [53,0] O (Cp (f:=(TI .u64)) (fun _=>O) O O (bH KR) dY)<|dP [1] O (oM O)<|dP [5] O (oM O)<|dP [56] O (bt (aT O) aI O6)<|dP [55,57] O (oX Z (eE O) O O SX)<|dP [58] O (aU (aT O) dY)<|dP [49,54,59] O (oC (Ae Vj) O)<|dP [60] O (wV O)<|dP [45] O (dW O O)<|dP [45] O (dW O O)<|dP [61] O (oA O)<|dP [62] O (oA O)<|dN<|dE [0,1,5,6,7,8,186] O ax<|cD (cm q O)) (fun s9 q=>by exact ar<|ae<|uS [0,1,5,186] O (α:=Int) (fun Ah=>[(6,.val (TI .u64 Ah))]) q (fun k41 q=>by exact ah<|jE [0,1,5,186] O (σ:=Int×Int×Int) (fun Gc=>[(6,.val (TI .u64 Gc.1)),(7,.val (TI .u64 Gc.2.1)),(8,.val (TI .u64 Gc.2.2))]) q O (fun k43 Gc q=>by exact ae<|rS<|cM<|cP (dv (aT O) aI)<|cF [0,1,5,6,7,64,186] O<|gc O q (fun adu q=>ai<|ar<|ah<|oK q fun LI Xe PJ Tq LH h50 q=>rS<|cM<|cM<|cM<|cP (bt (aT O) aI Xe)<|cP (oX Z (eE O) O O Tq)<|cR O dY<|cC (Mr h50) O<|cZ<|cE<|cE<|cA<|cA<|cF [0,1,5,6,7,9,10,186] O<|ae<|kO q fun K2 Vi q=>kO q fun GY Vh q=>kO q fun Nn h56 q=>rS<|cM<|cM<|cL O O<|cM<|gV O O (ov 9 O on) (fun rD=>oM O)<|gV O O (ov 7 O on) (fun hg2=>oM O)<|gV O O (oo 79 O id (oo 80 O id on)) (fun M=>dv (aT O) (aT O))<|gV O O (oo 81 O id on) (fun wa=>oM O)<|gO O O (ov 10 O on) (fun zW=>oM O)<|gO O O (ov 0 O on) (fun Bm=>fa)<|gO O O (ov 5 O on) (fun Hp=>oM O)<|gO O O (oo 85 O id on) (fun Na=>bt (aT O) aI (Vi Na))<|gO O O (oo 84 O id (oo 86 O id (ov 0 O on))) (fun PR=>vD Z (eP.same O) O (aT O) (Vh PR))<|gO O O (oo 87 O id (ov 0 O on)) (fun EN=>Cp (f:=(TI .u64)) (fun _=>O) O O (bH (h56 EN)) dY)<|gO O O (oo 83 O id (oo 88 O id on)) (fun JI=>vC (aT O) (aT O))<|gV O O (oo 82 O id (ov 89 O on)) (fun EM=>dI (aT O) O (fun h=>E9 (id EM) (j6 h)))<|cP (fH (aT O) O jN)<|cF [0,1,5,6,7,91,186] O<|gc O q (fun apY q=>aN (cm q O)) fun apY q=>ai<|ar<|rS<|cM<|cP (A5 (aT O) aI)<|cO (oA O)<|cF [0,1,5,6,7,186] O<|oK q fun Mj h59 Tv h61 DT Mf q=>by exact rK<|cM<|cM<|cM<|cP (bt (aT O) aI h59)<|cP (oX Z (eE O) O O h61)<|cR O dY<|cP (A6 (Ci Mf) (aJ.cons (aT O) (aJ.cons (aT O) (aJ.cons aI aJ.nil))))<|cZ<|cE<|cE<|cO (oA O)<|cA<|cF [0,1,5,6,7,8,186] O (cm q O)) fun adu q=>aN (cm q O))) (fun Ah q=>by exact ar<|rS<|cI<|cI<|cF [0,1,5,6,11,12,186] O<|ae<|rS<|cM<|cN<|cF [0,1,5,6,11,12,104,105,186] O<|ah<|jE [1,5,6,104,186] O (σ:=asv Int×Int×Int×Int) (fun IJ=>[(0,.pb 361 ps qs (lT (TI .u64) IJ.1)),(11,.val (TI .u64 IJ.2.1)),(12,.val (TI .u64 IJ.2.2.1)),(105,.val (TiZ IJ.2.2.2))]) q O (fun k65 IJ q=>by exact rS<|cL O O<|cF [0,1,5,6,11,12,104,105,106,186] O<|ae<|gc O q (fun apU q=>ai<|ar<|ae<|ah<|rS<|cM<|cA<|cF [0,1,5,6,11,12,13,104,105,186] O<|jU q fun x67 h68 Zo h70 q=>rS<|cM<|cM<|cM<|cP (oX Z (eE O) O O h68)<|cR O dY<|cC (Mr h70) O<|cZ<|cE<|cE<|cA<|cA<|cF [0,1,5,6,11,12,13,14,15,104,105,186] O<|rS<|cI<|cF [0,1,5,6,11,12,13,14,15,104,105,186] O<|ba q fun Zn h72 q=>rS<|cM<|cM<|cP (A6 (Ci h72) (aJ.cons (aT O) (aJ.cons (aT O) (aJ.cons aI aJ.nil))))<|cZ<|cE<|cE<|cO (oA O)<|cA<|cF [0,1,5,6,11,13,14,15,16,104,105,186] O<|rS<|cM<|cM<|cP (vF (aT O) (aT O))<|cA<|cF [0,1,5,6,11,12,13,15,104,105,186] O<|Ts q fun LG h74 x75 h76 x77 h78 Th h80 zX h82 q=>by exact rK<|cQ<|cM<|cQ<|cM<|cP (vD Z (eP.same O) O (aT O) h74)<|cP (Cp (f:=(TI .u64)) (fun _=>O) O O (bH h76) dY)<|cM<|cM<|cP (A6 (R0 h78) (aJ.cons (aT O) (aJ.cons (aT O) (aJ.cons (aT O) aJ.nil))))<|cZ<|cE<|cE<|cP (vD Z (eP.same O) O (aT O) h80)<|cS (V9 (f:=(TI .u64)) (fun _=>O) O O (bH h82) (aT O) dY)<|cO (oA O)<|cF [0,1,5,6,11,12,104,105,186] O (ar (ba q fun x83 h84 q=>by exact rK<|cH O h84<|cO (oM O)<|cF [0,1,5,6,11,12,104,105,186] O (cm q O)))) fun apU q=>aN (ar (Ts q fun x85 h86 x87 h88 J7 h90 XM h92 XL h94 q=>rS<|cQ<|cM<|cQ<|cM<|cP (vD Z (eP.same O) O (aT O) h86)<|cP (Cp (f:=(TI .u64)) (fun _=>O) O O (bH h88) dY)<|cM<|cM<|cP (A6 (R0 h90) (aJ.cons (aT O) (aJ.cons (aT O) (aJ.cons (aT O) aJ.nil))))<|cZ<|cE<|cE<|cP (vD Z (eP.same O) O (aT O) h92)<|cS (V9 (f:=(TI .u64)) (fun _=>O) O O (bH h94) (aT O) dY)<|cO (oA O)<|cF [0,1,5,6,11,186] O<|ae<|rS<|cM<|cP (dv (aT O) aI)<|cF [0,1,5,6,154,186] O<|gc O q (fun apL q=>rS<|cM<|cA<|cF [0,4,186] O<|by cases q;exact al (Xz hk O (bu.tmp O O bu.nil) O O O O)) fun apL q=>ai<|ar<|rS<|cI<|cF [0,1,5,6,17,186] O<|ae<|rS<|cM<|cN<|cF [0,1,5,6,17,156,157,186] O<|ah<|jE [1,5,6,156,186] O (σ:=asv Int×Int×Int) (fun L2=>[(0,.pb 361 ps qs (lT (TI .u64) L2.1)),(17,.val (TI .u64 L2.2.1)),(157,.val (TiZ L2.2.2))]) q O (fun k97 L2 q=>by exact rS<|cL O O<|cF [0,1,5,6,17,156,157,158,186] O<|ae<|gc O q (fun ajp q=>ai<|ar<|ae<|ah<|rS<|cM<|cA<|cF [0,1,5,6,17,18,156,157,186] O<|S8 q fun VZ Xf LK adG PV adF Zw ajT afa ajS Np ajR q=>gD 18 mixed<|dP [0] O (fa)<|dP [18] O (oM O)<|dP [0] O (fa)<|dP [18] O (oM O)<|dP [163,164,0] O (vD Z (eP.same O) O (aT O) Xf)<|dP [165,0] O (Cp (f:=(TI .u64)) (fun _=>O) O O (bH adG) dY)<|dP [1] O (oM O)<|dP [18] O (oM O)<|dP [167,168] O (oX Z (eE O) O O adF)<|dP [169] O (aU (aT O) dY)<|dP [17] O (oM O)<|dP [166,170,171] O (A6 (Ci ajT) (aJ.cons (aT O) (aJ.cons (aT O) (aJ.cons (aT O) aJ.nil))))<|dP [172] O (wV O)<|dP [160] O (dW O O)<|dP [160] O (dW O O)<|dP [161,162,0] O (vD Z (eP.same O) O (aT O) ajS)<|dS [173,175,0] O (afu (f:=(TI .u64)) (fun _=>O) O O (bH ajR) (aT O) dY)<|dP [174] O (oA O)<|dN<|dE [0,1,5,6,17,156,157,186] O ax<|cD (ar (ba q fun Zv ajQ q=>by exact rK<|cH O ajQ<|cO (oM O)<|cF [0,1,5,6,17,156,157,186] O (cm q O)))) fun ajp q=>aN (ar (LF q fun TA ajP Rw ajO Tz ajN No ajM q=>rS<|cQ<|cM<|cP (vD Z (eP.same O) O (aT O) ajP)<|cP (Cp (f:=(TI .u64)) (fun _=>O) O O (bH ajO) dY)<|cM<|cP (vF (aT O) (aT O))<|cP (vD Z (eP.same O) O (aT O) ajN)<|cS (V9 (f:=(TI .u64)) (fun _=>O) O O (bH ajM) (aT O) dY)<|cF [0,6,186] O<|rS<|cM<|cP (A5 (aT O) aI)<|cA<|cF [0,4,186] O<|by cases q;exact al (Xz hk O (bu.tmp O O bu.nil) O O O O)))))))))
def Ii{a0 a1 r}(q:ue a0 a1=some r):cw 285 [(TL (TI .u64)) a0,(TL (TI .u64)) a1] [(TL (TI .u64)) r.1,(TL (TI .u64)) r.2]:=by
 refine dp func285 O ax<| ?_
 refine rS<|cP (aC (Arg.nn (f:=(TI .u64))))<|cP (aC (Arg.nn (f:=(TI .u64))))<|aj 3 O ?_
 refine ae ?_;obtain⟨x1,h2,q⟩:=aA q;refine rS<|cM<|cM<|cC (yY h2) O<|cP (eJ (aT O) aI)<|aj 524291 O ?_
 refine gc O q (fun hb3 q=>?_) fun hb3 q=>?_
 ·refine rS<|cM<|cP (aC (Arg.nn (f:=(TI .u64))))<|cA<|aj 48 O ?_
  cases q;exact al (fL (VP (t:=4) O) (gp O O (bu.tmp O O (bu.tmp O O bu.nil))))
 ·refine ai<|ar<|ae<|rS<|cM<|cJ eL O<|cP (dv (aT O) aI)<|cF [0,1,23] O ?_
  refine gc O q (fun Md q=>?_) fun Md q=>?_
  ·obtain⟨x5,h6,q⟩:=aA q;refine rS<|cM<|cJ eL O<|cP (GH (TI .u64) aaj yf O (aT O) (aT O) h6)<|cS (bE O O (cq O) _ (Or.inl O))<|aj 67 O ?_
   refine rS<|cI<|aj 195 O ?_
   refine ae ?_;obtain⟨x7,h8,q⟩:=aA q;refine rS<|cM<|cJ eL O<|cP (bt (aT O) aI h8)<|cA<|aj 451 O ?_
   refine ah<|jE [0,1] O (σ:=asv Int×Int×Int) (fun s9=>[(6,.buf 361 1 (lT (TI .u64) s9.1)),(7,.val (TI .u64 s9.2.1)),(8,.val (TiZ s9.2.2))]) q O (fun PN s9 q=>?_)
   refine ae<|rS<|cM<|cP (kg (aT O) aI)<|aj 2147484099 O ?_
   refine gc O q (fun KP q=>?_) fun KP q=>?_
   ·refine ai<|ar<|ae<|ah ?_
    obtain⟨fJ,lK,gH,mF,ib,Q,jG,qt,lN,h21,q⟩:=b5 q;refine gD 17 mixed<|dP [6] O (fa)<|dP [8] O (oM O)<|dP [7] O (oM O)<|dP [0] O (oM O)<|dP [8] O (oM O)<|dP [38,39] O (oX Z (eE O) O O lK)<|dP [40] O (aU (aT O) dY)<|dP [1] O (oM O)<|dP [42] O (lO Z (eE O) (aT O) aI mF)<|dP [43] O (aU (aT O) dY)<|dP [37,41,44] O (oC (Ae Q) O)<|dP [45] O (wV O)<|dP [34] O (dW O O)<|dP [34] O (dW O O)<|dP [35,36,6] O (eK Z O O (aT O) qt)<|dS [46,48,6] O (RY (f:=(TI .u64)) (fun _=>O) O O (bH h21) (aT O) dY)<|dP [47] O (oA O)<|dN<|dE [0,1,6,7,8] O ax<|cD (ar ?_)
    obtain⟨nZ,DJ,q⟩:=aA q;exact rK<|cM<|cP (bt (aT O) aI DJ)<|cO (oA O)<|aj 451 O (cm q O)
   ·refine aN (ar ?_);obtain⟨uR,JL,AS,KS,q⟩:=b2 q;refine rS<|cQ<|cG (iM (t:=6) O)<|cG (km (s:=49) O O)<|cC (pO JL) O<|cM<|cP (bS yf aed O O)<|cC (pO KS) O<|cA<|cA<|aj 48 O ?_
    cases q;exact al (r2 O)
  ·refine ai (ar ?_);obtain⟨rA,Hy,sv,DI,rz,KR,q⟩:=b3 q;refine rS<|cM<|cM<|cJ eL O<|cP (bt (aT O) aI Hy)<|cP (oX Z (eE O) O O DI)<|cR O dY<|cC (abX KR) O<|cA<|aj 515 O ?_
   obtain⟨z8,O6,vk,SX,q⟩:=b2 q;refine rS<|cM<|cM<|cC (Gt O6) O<|cG (iM (t:=63) O)<|cC (pO SX) O<|cA<|aj 1537 O ?_
   obtain⟨HW,Vj,q⟩:=aA q;refine rS<|cM<|cM<|cC (Gt Vj) O<|cS (bE O O (cq O) _ (Or.inl O))<|aj 3585 O ?_
   refine rS<|cM<|cJ eL O<|cA<|aj 7681 O ?_
   obtain⟨Rv,h41,Zp,h43,VM,Qq,q⟩:=b3 q;refine rS<|cM<|cJ eL O<|cM<|cP (bt (aT O) (aT O) h41)<|cH O h43<|cP (GH (TI .u64) aaj yf O (aT O) (aT O) Qq)<|cS (bE O O (cq O) _ (Or.inl O))<|aj 15873 O ?_
   refine ae ?_;obtain⟨Tj,YV,q⟩:=aA q;refine rS<|cM<|cJ eL O<|cM<|cP (bt (aT O) (aT O) YV)<|cA<|aj 32256 O ?_
   refine ah<|jE [9,10,12] O (σ:=asv Int×asv Int×Int) (fun GC=>[(11,.buf 361 1 (lT (TI .u64) GC.1)),(13,.buf 361 1 (lT (TI .u64) GC.2.1)),(14,.val (TiZ GC.2.2))]) q O (fun k49 GC q=>?_)
   refine ae<|rS<|cM<|cP (kg (aT O) aI)<|cF [9,10,11,12,13,14,81] O ?_
   refine gc O q (fun ajs q=>?_) fun ajs q=>?_
   ·refine ai<|ar<|ae<|ah ?_
    obtain⟨K2,Vi,GY,Vh,q⟩:=b2 q;obtain⟨h55,q⟩:=wL q;obtain⟨Mk,h57,q⟩:=aA q;obtain⟨h58,q⟩:=wL q;obtain⟨x59,h60,Tu,h62,q⟩:=b2 q;refine rK<|cQ<|cM<|cQ<|cM<|cM<|cM<|cP (cg (aT O) (aT O) Vi)<|cH O Vh<|cP (QZ (f:=(TI .u64)) Z (eP.same O) O (Lo.some (aT O)) (Lo.some (aT O)) h55)<|cM<|cS (TX (f:=(TI .u64)) (xs:=[]) (ys:=[.tmp 93]) (fun _=>O) (fun ps qs _=>V4 h57) eP.own O O h58 aJ.nil (aJ.cons (aT O) aJ.nil) (cq O) O)<|cP (eK Z O O (aT O) h60)<|cS (pS (f:=(TI .u64)) (fun _=>O) O O (bH h62) (aT O) dY)<|aj 32256 O (ar ?_)
    obtain⟨Ti,h64,q⟩:=aA q;exact rK<|cM<|cP (bt (aT O) aI h64)<|cO (oA O)<|aj 32256 O (cm q O)
   ·refine aN<|ar<|ae<|rS<|cM<|cN<|cF [9,11,12,13,96,97] O ?_
    refine ah<|jE [9,12,13,96] O (σ:=asv Int×Int) (fun B6=>[(11,.buf 361 1 (lT (TI .u64) B6.1)),(97,.val (TiZ B6.2))]) q O (fun k66 B6 q=>?_)
    refine rS<|cL O O<|cF [9,11,12,13,96,97,98] O ?_
    refine ae<|gc O q (fun apT q=>?_) fun apT q=>?_
    ·refine ai<|ar<|ae<|uS [9,12,13,96,97] O (α:=(asv Int)) (fun s68=>[(11,.buf 361 1 (lT (TI .u64) s68))]) q (fun k69 q=>?_) (fun s68 q=>?_)
     ·refine ah<|rS<|cM<|cA<|cF [9,11,12,13,15,96,97] O ?_
      obtain⟨x70,h71,x72,h73,Zm,h75,QC,h77,x78,h79,q⟩:=b5 q;refine rS<|cQ<|cM<|cP (eK Z O O (aT O) h71)<|cP (pd (f:=(TI .u64)) (fun _=>O) O O (bH h73) dY)<|cM<|cP (Hd (aT O) (aT O) h75)<|cP (eK Z O O (aT O) h77)<|cS (pS (f:=(TI .u64)) (fun _=>O) O O (bH h79) (aT O) dY)<|cF [9,11,12,13,15,96,97] O ?_
      obtain⟨x80,h81,q⟩:=pW q;refine rS<|cM<|cP (da (aT O) aI)<|cM<|gV O O (ov 15 O on) (fun rD=>oM O)<|gV O O (oo 110 O id on) (fun hg2=>cg (aT O) aI (h81 hg2))<|gV O O (ov 11 O on) (fun M=>fa)<|gV O O (oo 112 O id (ov 11 O on)) (fun wa=>nM eL O O)<|gV O O (oo 111 O id (oo 113 O id on)) (fun zW=>eJ (aT O) (aT O))<|cP (dI (aT O) O j6)<|cF [9,11,12,13,15,96,97,115] O ?_
      refine gc O q (fun apN q=>?_) fun apN q=>?_
      ·obtain⟨x83,h84,x85,h86,x87,h88,J7,h90,XM,h92,XL,h94,q⟩:=b6 q;obtain⟨VK,h96,x97,h98,VZ,Xf,q⟩:=b3 q;exact gD 15 mixed<|dP [11] O (fa)<|dP [15] O (oM O)<|dP [116,117,11] O (eK Z O O (aT O) h84)<|dP [118,11] O (pd (f:=(TI .u64)) (fun _=>O) O O (bH h86) dY)<|dP [11] O (fa)<|dP [15] O (oM O)<|dP [121] O (cg (aT O) aI h88)<|dP [120,122,11] O (eK Z O O (aT O) h90)<|dP [123,11] O (pd (f:=(TI .u64)) (fun _=>O) O O (bH h92) dY)<|dP [9] O (oM O)<|dP [125] O (bt aI (aT O) h94)<|dP [124,126] O (On (aT O) (aT O) h96)<|dP [119,127] O (Wv (aT O) (aT O))<|dP [116,117,11] O (eK Z O O (aT O) h98)<|dS [128,129,11] O (RY (f:=(TI .u64)) (fun _=>O) O O (bH Xf) (aT O) dY)<|dN<|dE [9,11,12,13,96,97] O ax<|cD (cm q O)
      ·exact ai (cm q O)
     ·refine ar ?_;obtain⟨LK,adG,q⟩:=aA q;exact rK<|cH O adG<|cO (oM O)<|cF [9,11,12,13,96,97] O (cm q O)
    ·refine aN<|ar<|ae<|C7 (iM (t:=13) O) ?_
     refine C7 (iM (t:=11) O) ?_;refine mz (sS [9,11,12,13,96,97,98] O) ?_;obtain⟨PV,adF,Zw,ajT,afa,ajS,q⟩:=b3 q;refine gD 8 mixed<|dP [13] O (oM O)<|dP [131] O (oC (pO adF) O)<|dP [11] O (oM O)<|dP [12] O (oM O)<|dP [133,134] O (tl Z (eE O) (aT O) Lo.none (Lo.some (aT O)) ajT)<|dP [135] O (oC (pO ajS) O)<|dP [132] O (oA O)<|dP [136] O (oA O)<|dN<|dE [4,5] O ax<|cD (ar ?_)
     cases q;exact al (r2 O)
def Gu{a0 a1 r}(q:rY a0 a1=some r):cw 270 [a7 a0,a7 a1] [a7 r]:=
 dp func270 O ax<|rS<|cX<|cX<|cT gT<|aj 28 O<|jU q fun x1 h2 x3 h4 q=>gE 5 mixed<|dP [2] O (ab O m)<|dP [3] O (ab O m)<|dP [6] O (oC (lU h2) O)<|dP [5,7] O (oC (wm h4) O)<|dS [4,8] O (ds O O O m)<|dN<|dE [4] O ax<|cD<|al (mE q O m)
def BA{a0 a1 r}(q:nR a0 a1=some r):cw 213 [a7 a0,a7 a1] [a7 r.1,a7 r.2]:=
 dp func213 O ax<|rS<|cX<|cX<|cT gT<|cT gT<|aj 60 O<|ae<|rS<|jt 1 O oI O zP<|cP (rf eL (aT O))<|cM<|gV O O (ov 3 O on) (fun rD=>aO O oI)<|gV O O (oo 20 O id (ov 3 O on)) (fun hg2=>oP 1 O O zP)<|gV O O (oo 21 O id on) (fun M=>rf eL (aT O))<|cP (dI (aT O) O j6)<|cM<|gV O O (ov 2 O on) (fun wa=>aO O gY)<|gV O O (oo 25 O id (ov 2 O on)) (fun zW=>oP 0 O O C)<|gV O O (oo 26 O id on) (fun Bm=>db (aT O) aI)<|cP (dI (aT O) O j6)<|aj 268435516 O<|gc O q (fun hb1 q=>jU q fun x2 h3 x4 h5 q=>gE 12 mixed<|dQ 0 O gY O C<|dQ 0 O gY O C<|dP [30,32] O (sA (aT O) (aT O) h3)<|dQ 0 O gY O C<|dQ 0 O gY O C<|dP [35,37] O (nI (aT O) (aT O) h5)<|dP [33] O (oA O)<|dP [38] O (oA O)<|dN<|dE [3,4,5,6,7] O ax<|cD<|ae<|rS<|cM<|cP (eJ (aT O) aI)<|cF [3,4,5,6,7,40] O<|uS [4,5] O (α:=Int×Int) (fun s6=>[(6,.val (TiZ s6.1)),(7,.val (TiZ s6.2))]) q (fun k7 q=>by exact gc O q (fun X q=>jU q fun x9 kB iY qS q=>gD 8 mixed<|dP [6] O (oM O)<|dP [41] O (bt (aT O) aI kB)<|dP [7] O (oM O)<|dQ 0 O gY O C<|dP [43,45] O (cg (aT O) (aT O) qS)<|dP [42] O (oA O)<|dP [46] O (oA O)<|dN<|dE [4,5,6,7] O ax<|cD (cm q O)) fun X q=>ai (cm q O)) (fun s6 q=>by exact ar<|rS<|cM<|cP (bB gT vv O)<|cM<|cP (bB gT vv O)<|cs O O O m<|cs O O O m<|aj 48 O<|by cases q;exact al (gp O O (bu.cell O (qf m) O (bu.cell O (qf m) O bu.nil))))) fun hb1 q=>ai (ar (ba q fun jK ot q=>rS<|cU O m<|cC (jl ot) O<|cZ<|cE<|cE<|cA<|cA<|aj 824 O<|ba q fun kH S q=>rS<|cU O m<|cC (jl S) O<|cZ<|cE<|cE<|cA<|cA<|aj 2872 O<|ba q fun jH U q=>rS<|cM<|cM<|cC (Ii U) O<|cZ<|cE<|cE<|cA<|cA<|aj 12600 O<|jU q fun jR Y kL uX q=>rS<|cM<|cM<|cC (sM Y) O<|cM<|cM<|cC (sM uX) O<|cT gT<|cT gT<|cs O O O m<|cs O O O m<|aj 49208 O<|ae<|ba q fun lD xc q=>rS<|cU O m<|cC (nK xc) O<|cP (eJ (aT O) aI)<|cF [3,4,5,14,15,75] O<|uS [4,5] O (α:=(Int×asv Int)×(Int×asv Int)) (fun re=>[(14,.own 98 (a7 re.1)),(15,.own 98 (a7 re.2))]) q (fun OO q=>by exact gc O q (fun Xc q=>oK q fun rA Hy sv DI rz KR q=>gD 8 mixed<|dP [14] O (ab O m)<|dP [] O (oC (D3 Hy) O)<|dP [76,77] O (oC (Gu DI) O)<|dP [15] O (ab O m)<|dP [3] O (ab O m)<|dP [79,80] O (oC (wm KR) O)<|dS [14,78] O (ds O O O m)<|dS [15,81] O (ds O O O m)<|dN<|dE [4,5,14,15] O ax<|cD (cm q O)) fun Xc q=>ai (cm q O)) (fun re q=>by exact ar<|gE 4 mixed<|dP [14] O (ab O m)<|dP [15] O (ab O m)<|dS [4,82] O (ds O O O m)<|dS [5,83] O (ds O O O m)<|dN<|dE [4,5] O ax<|cD<|by cases q;exact al (gp O O (bu.cell O (qf m) O (bu.cell O (qf m) O bu.nil))))))
def QD{a0 a1 r}(q:Fu a0 a1=some r):cw 141 [a7 a0,a7 a1] [a7 r]:=
 dp func141 O ax<|rS<|cX<|cX<|cT gT<|aj 28 O<|jU q fun x1 h2 x3 h4 q=>gE 6 mixed<|dP [2] O (ab O m)<|dP [7] O (oC (AY h2) O)<|dP [3] O (ab O m)<|dP [9] O (oC (AY h4) O)<|dS [2,8] O (ds O O O m)<|dS [3,10] O (ds O O O m)<|dN<|dE [2,3,4] O ax<|cD<|ae<|ah<|jE [4] O (σ:=(Int×asv Int)×(Int×asv Int)) (fun s5=>[(2,.own 98 (a7 s5.1)),(3,.own 98 (a7 s5.2))]) q O (fun k6 s5 q=>by exact ae<|ba q fun x7 h8 q=>rS<|cU O m<|cC (nK h8) O<|cP (db (aT O) aI)<|aj 8220 O<|gc O q (fun OZ q=>ai<|ar<|ah<|ba q fun eF j5 q=>rS<|cU O m<|cU O m<|cC (BA j5) O<|cZ<|cE<|cE<|cT gT<|cT gT<|cs O O O m<|cs O O O m<|aj 92 O<|gD 4 mixed<|dP [3] O (ab O m)<|dP [6] O (ab O m)<|dS [2,20] O (ds O O O m)<|dS [3,21] O (ds O O O m)<|dN<|dE [2,3,4] O ax<|cD (cm q O)) fun OZ q=>aN<|ar<|rS<|cU O m<|cs O O O m<|cF [4] O<|al (mE q O m))
def LR{a0 r}(q:sC a0=some r):cw 143 [a7 a0] [TiZ r.1,aZ r.2]:=by
 unfold sC at q;exact dp func143 O ax<|rS<|cX<|cI<|cB<|aj 2 O<|gE 7 mixed<|dQ 0 O gY O C<|dQ 1 O oI O zP<|dP [7] O (rf eL (aT O))<|dP [5] O (oA O)<|dP [8] O (oA O)<|dN<|dE [2,3] O ax<|cD<|by cases q;exact al (r2 O)
def RO{H:HV}{z:Int}{v:aq6}(h:(nH z).ok H v):∃r,rE r z/\(a7 r).ok H v:=h
def aa0{f:FuncId}{x y:Int}{dq:asv Ty}(hc:eN prog f=true)(h:∀r s,rE r x->rE s y->∃xV,fC prog f [a7 r,a7 s] (.vs xV)/\∀H v,wU H xV v->wU H dq v):fC prog f [nH x,nH y] (.vs dq):=
 Eg hc fun H vs gS=>by
  obtain⟨u,v,rfl,hu,hv⟩:=Cs gS;obtain⟨r,hr,hru⟩:=RO hu;obtain⟨s,hs,hsv⟩:=RO hv;obtain⟨xV,h1,h2⟩:=h r s hr hs;exact⟨[a7 r,a7 s],xV,⟨u,[v],rfl,hru,v,[],rfl,hsv,rfl⟩,h1,h2⟩
def RP{H:HV}{z:Int}{v:aq6}{r:Int×asv Int}(h:rE r z)(k:(a7 r).ok H v):(nH z).ok H v:=⟨r,h,k⟩
def Ut{z:Int}{q:Int×asv Int}(h:rE q z):∀(H:HV) (v:aq6),wU H [a7 q] v->wU H [nH z] v:=fun H v k=>RP h k
def afE{x y:Int}{r:Int}(hm:Td x y=some r):cw 141 [nH x,nH y] [nH r]:=by
 obtain⟨hb,rfl⟩:=js hm;obtain⟨h1,h2⟩:=eM hb;exact aa0 ax fun r s hr hs=>by obtain⟨q,e,hq⟩:=Yo hr hs h1 h2;exact⟨_,QD e,Ut hq⟩
def Uc{x:aev}{r:Int}(hm:uP x=some r):cw 142 [TS x] [nH r]:=by
 obtain⟨q,e,hq⟩:=acA hm;have:=V5 e;exact Eg ax fun H vs gS=>⟨_,_,gS,this,Ut hq⟩
def aa1{f:FuncId}{x:Int}{dq:asv Ty}(hc:eN prog f=true)(h:∀r,rE r x->∃xV,fC prog f [a7 r] (.vs xV)/\∀H v,wU H xV v->wU H dq v):fC prog f [nH x] (.vs dq):=
 Eg hc fun H vs gS=>by
  obtain⟨u,rfl,hu⟩:=tT gS;obtain⟨r,hr,hru⟩:=RO hu;obtain⟨xV,h1,h2⟩:=h r hr;exact⟨[a7 r],xV,⟨u,[],rfl,hru,rfl⟩,h1,h2⟩
def Wl{x:Int}{r:Int×Bool}(hm:HO x=some r):cw 143 [nH x] [TI .i64 r.1,aZ r.2]:=by
 obtain⟨hb,rfl⟩:=js hm;rw[jj,lq] at hb;exact aa1 ax fun r hr=>⟨_,LR (aad hr hb),fun _ _ h=>h⟩
def rG{a0 r}(q:iG a0=some r):cw 72 [TS a0] [TiZ r]:=
 dp func72 O ax<|rS<|cI<|aj 1 O<|ba q fun x1 h2 q=>rS<|cM<|cP (fS (ahp h2) (aJ.cons (aT O) (aJ.cons (Arg.s O) aJ.nil)))<|cZ<|cE<|cE<|cE<|cA<|cA<|cA<|aj 56 O<|ba q fun x3 h4 q=>rS<|cM<|cP (fS (F6 h4) (aJ.cons (aT O) (aJ.cons (Arg.s O) aJ.nil)))<|cZ<|cE<|cE<|cA<|cA<|aj 240 O<|ae<|ba q fun x5 h6 q=>kO q fun x7 h8 q=>rS<|cM<|cC (Gm h6) O<|cP (iN (aT O))<|cM<|gV O O (ov 7 O on) (fun rD=>oM O)<|gV O O (oo 25 O id on) (fun hg2=>oM O)<|gO O O (ov 6 O on) (fun M=>oM O)<|gO O O (oo 27 O id on) (fun wa=>vE (aT O) (Arg.s O))<|gV O O (oo 26 O id (ov 28 O on)) (fun zW=>dI (aT O) O (fun h=>E9 (id zW) (j6 h)))<|cP (fH (aT O) O jN)<|cM<|gV O O (ov 5 O on) (fun Bm=>oM O)<|gV O O (oo 32 O id on) (fun Hp=>oM O)<|gO O O (ov 4 O on) (fun Na=>oM O)<|gO O O (oo 34 O id on) (fun PR=>oC (Gm (h8 PR)) O)<|gO O O (oo 35 O id on) (fun EN=>iN (aT O))<|gO O O (oo 36 O id on) (fun JI=>oM O)<|gO O O (ov 4 O on) (fun EM=>oM O)<|gO O O (oo 38 O id on) (fun Hq=>vE (aT O) (Arg.s O))<|gO O O (oo 37 O id (ov 39 O on)) (fun Mc=>fH (aT O) O (fun h=>E9 (id Mc) (jN h)))<|gO O O (oo 40 O id on) (fun OY=>oM O)<|gO O O (ov 4 O on) (fun SR=>oM O)<|gO O O (oo 42 O id on) (fun Vd=>vE (aT O) (Arg.s O))<|gO O O (oo 41 O id (ov 43 O on)) (fun W8=>fH (aT O) O (fun h=>E9 (id W8) (jN h)))<|gV O O (oo 33 O id (ov 44 O on)) (fun aaJ=>dI (aT O) O (fun h=>E9 (id aaJ) (j6 h)))<|cP (fH (aT O) O jN)<|cF [4,5,6,46] O<|gc O q (fun OZ q=>rS<|cI<|aj 4 O<|al (eS q O)) fun OZ q=>ai<|ar<|ae<|rS<|cM<|cP (fR V (aT O))<|cP (da (aT O) aI)<|cM<|gV O O (ov 4 O on) (fun agE=>oM O)<|gV O O (oo 51 O id on) (fun ado=>fR V (aT O))<|gV O O (oo 52 O id on) (fun aaI=>da (aT O) aI)<|cP (fH (aT O) O jN)<|cF [4,5,6,54] O<|gc O q (fun xI q=>rS<|cI<|aj 4 O<|al (eS q O)) fun xI q=>ai<|ar<|ae<|rS<|cM<|cF [4,6,55] O<|ER (α:=Unit) (fun Dr=>[]) q (fun JD q=>by exact gc O q (fun KN q=>LF q fun gH mF ib Q jG qt lN h21 q=>rS<|cM<|cC (Uc mF) O<|cM<|cC (Uc Q) O<|cC (afE qt) O<|cC (Wl h21) O<|cZ<|cE<|cE<|cA<|cA<|aj 768 O<|rS<|cM<|cP (iN (aT O))<|cM<|gV O O (ov 8 O on) (fun aaH=>oM O)<|gV O O (oo 68 O id on) (fun ajk=>db (aT O) aI)<|cP (fH (aT O) O jN)<|cF [70] O<|gc O q (fun O3 q=>rS<|cI<|aj 4 O<|al (eS q O)) fun O3 q=>ai (cm q O)) fun KN q=>ai (cm q O)) (fun Dr q=>by exact ar<|rS<|cI<|aj 4 O<|al (eS q O))
def Ka{a0 r}(q:vI a0=some r):cw 127 [(TL TS) a0] [TiZ r]:=
 dp func127 O ax<|rS<|cI<|aj 1 O<|ae<|rS<|cM<|cJ KI O<|cN<|aj 448 O<|ah<|jE [6,7] O (σ:=Int) (fun s1=>[(8,.val (TiZ s1))]) q O (fun k2 s1 q=>by exact rS<|cL O O<|aj 960 O<|ae<|gc O q (fun hb3 q=>ai<|ar<|ae<|ah<|ba q fun x4 h5 q=>rS<|cP (oX QL (eE O) O O h5)<|cR O T<|cA<|aj 464 O<|ba q fun x6 h7 q=>rS<|cM<|cC (rG h7) O<|cA<|aj 480 O<|rS<|cM<|cP (db (aT O) aI)<|aj 33248 O<|gc O q (fun X q=>rS<|cM<|cA<|aj 4 O<|al (eS q O)) fun X q=>ai (ar (ba q fun x9 kB q=>by exact rK<|cH O kB<|cO (oM O)<|aj 448 O (cm q O)))) fun hb3 q=>aN<|ar<|rS<|cI<|aj 4 O<|al (eS q O))
def ku{a0 r}(q:dc a0=some r):cw 51 [aR a0] [TiZ r]:=
 dp func51 O ax<|rS<|cX<|cI<|aj 2 O<|ba q fun x1 h2 q=>rS<|cG (qB (t:=1) O)<|cP (Z9 gJ (uc O (uc O (uc O un))) O (aT O))<|cC (Ka h2) O<|cA<|aj 4 O<|al (eS q O)
def sOf{x r:Int}(hm:aOf x=some r):cw 130 [TI .i64 x] [nH r]:=by
 have h1:DP x/\x=r:=by
  unfold aOf aF at hm;cases hb:B0 x
  ·rw[hb] at hm;cases hm
  ·rw[hb] at hm;refine⟨?_,fG hm⟩;unfold B0 at hb;obtain⟨a,b⟩:=eM hb;exact⟨bg a,bg b⟩
 obtain⟨h1,rfl⟩:=h1;have:=D3 (a0:=x) (r:=(x,[])) rfl;exact Eg ax fun H vs gS=>⟨_,_,gS,this,Ut (.inl ⟨rfl,rfl,h1⟩)⟩
def TF{a0 r}(q:ED a0=some r):cw 129 [nH a0] [aY r]:=
 dp func129 O ax<|rS<|cX<|cT W<|aj 6 O<|jU q fun x1 h2 x3 h4 q=>gE 4 mixed<|dP [1] O (ab O m)<|dP [] O (oC (sOf h2) O)<|dP [3,4] O (tm (bB Nl Ix O) (WE h4))<|dS [2,5] O (ds O O O d)<|dN<|dE [2] O ax<|cD<|al (mE q O d)
def Oa{x:Int}{r:Rat}(hm:K0 x=some r):cw 129 [nH x] [aY r]:=by
 have hm:=fG hm;subst hm;exact TF (Xi x)
def kv{a0 r}(q:iT a0=some r):cw 108 [TS a0] [aY r]:=
 dp func108 O ax<|rS<|cT W<|aj 5 O<|ba q fun x1 h2 q=>rS<|cM<|cP (fS (ahp h2) (aJ.cons (aT O) (aJ.cons (Arg.s O) aJ.nil)))<|cZ<|cE<|cE<|cE<|cA<|cA<|cA<|aj 60 O<|ae<|rS<|cM<|cP (iN (aT O))<|aj 8220 O<|gc O q (fun hb3 q=>jU q fun x4 h5 x6 h7 q=>rS<|cM<|cC (Uc h5) O<|cC (Oa h7) O<|cs O O O d<|aj 4 O<|al (mE q O d)) fun hb3 q=>ai (ar (oK q fun x8 h9 eF j5 fJ lK q=>rS<|cM<|cC (Uc h9) O<|cM<|cC (Uc j5) O<|cP (tm (bB Nl Ix O) (WE lK))<|cs O O O d<|aj 4 O<|al (mE q O d)))
def im{a0 r}(q:fg a0=some r):cw 52 [aR a0] [aq r]:=
 dp func52 O ax<|rS<|cX<|cT bJ<|aj 6 O<|oK q fun x1 h2 x3 h4 x5 h6 q=>gE 11 mixed<|dP [1] O (iO O gJ O)<|dP [3,1] O (oP 0 O O T)<|dP [4] O (oC (kv h2) O)<|dP [1] O (iO O gJ O)<|dP [6,1] O (oP 1 O O T)<|dP [7] O (oC (kv h4) O)<|dP [1] O (iO O gJ O)<|dP [9,1] O (oP 2 O O T)<|dP [10] O (oC (kv h6) O)<|dP [5,8,11] O (bA oN P O O)<|dS [2,12] O (ds O O O g)<|dN<|dE [2] O ax<|cD<|al (mE q O g)
def AX{a0 a1 r}(q:rZ a0 a1=some r):cw 255 [a7 a0,a7 a1] [a7 r]:=
 dp func255 O ax<|rS<|cX<|cX<|cT gT<|aj 28 O<|ae<|ba q fun x1 h2 q=>rS<|cU O m<|cC (nK h2) O<|cP (eJ (aT O) aI)<|aj 540 O<|uS [4] O (α:=(Int×asv Int)×(Int×asv Int)) (fun s3=>[(2,.own 98 (a7 s3.1)),(3,.own 98 (a7 s3.2))]) q (fun k4 q=>by exact gc O q (fun DH q=>jU q fun x6 h7 x8 h9 q=>gD 6 mixed<|dP [2] O (ab O m)<|dP [10] O (oC (lU h7) O)<|dP [3] O (ab O m)<|dP [12] O (oC (lU h9) O)<|dS [2,11] O (ds O O O m)<|dS [3,13] O (ds O O O m)<|dN<|dE [2,3,4] O ax<|cD (cm q O)) fun DH q=>ai (cm q O)) (fun s3 q=>by exact ar<|ba q fun eF j5 q=>rS<|cU O m<|cU O m<|cC (BA j5) O<|cZ<|cE<|cE<|cT gT<|cT gT<|cs O O O m<|cs O O O m<|aj 48 O<|rS<|cU O m<|cs O O O m<|cF [4] O<|al (mE q O m))
def V6{a0 a1 r}(q:Hf a0 a1=some r):cw 177 [a7 a0,a7 a1] [Dk r]:=
 dp func177 O ax<|rS<|cX<|cX<|cT J6<|aj 28 O<|ae<|ba q fun x1 h2 q=>rS<|cU O m<|cC (nK h2) O<|cP (eJ (aT O) aI)<|aj 284 O<|uS [4] O (α:=(Int×asv Int)×(Int×asv Int)) (fun s3=>[(2,.own 98 (a7 s3.1)),(3,.own 98 (a7 s3.2))]) q (fun k4 q=>by exact gc O q (fun DH q=>jU q fun x6 h7 x8 h9 q=>gD 6 mixed<|dP [2] O (ab O m)<|dP [9] O (oC (lU h7) O)<|dP [3] O (ab O m)<|dP [11] O (oC (lU h9) O)<|dS [2,10] O (ds O O O m)<|dS [3,12] O (ds O O O m)<|dN<|dE [2,3,4] O ax<|cD (cm q O)) fun DH q=>ai (cm q O)) (fun s3 q=>by exact ar<|ae<|rS<|jt 1 O oI O zP<|cP (rf eL (aT O))<|cM<|gV O O (ov 3 O on) (fun rD=>aO O gY)<|gV O O (oo 17 O id (ov 3 O on)) (fun hg2=>oP 0 O O C)<|gV O O (oo 18 O id on) (fun M=>dv (aT O) aI)<|cP (dI (aT O) O j6)<|aj 1048604 O<|gc O q (fun xI q=>rS<|cU O m<|cU O m<|cP (bB J6 Ix O)<|cs O O O d<|cF [4] O<|al (mE q O d)) fun xI q=>ai (ar (ba q fun iY qS q=>rS<|cU O m<|cU O m<|cC (QD qS) O<|cT gT<|cs O O O m<|aj 60 O<|jU q fun jK ot kH S q=>gE 8 mixed<|dP [2] O (ab O m)<|dP [5] O (ab O m)<|dP [27,28] O (oC (AX ot) O)<|dP [3] O (ab O m)<|dP [5] O (ab O m)<|dP [30,31] O (oC (AX S) O)<|dP [29,32] O (bB J6 Ix O)<|dS [4,33] O (ds O O O d)<|dN<|dE [4] O ax<|cD<|al (mE q O d))))
def aq4{H:HV}{v:aq6}{τ1 τ2 σ1 σ2:Ty}(h1:∀v,τ1.ok H v->σ1.ok H v)(h2:∀v,τ2.ok H v->σ2.ok H v):(gn [τ1,τ2]).ok H v->(gn [σ1,σ2]).ok H v:=by
 rintro⟨cs,e,a,r1,e1,ha,b,r2,e2,hb,e3⟩;exact⟨cs,e,a,r1,e1,h1 _ ha,b,r2,e2,h2 _ hb,e3⟩
def X7{x y:Int}{r:Rat}(hm:GW x y=some r):cw 177 [nH x,nH y] [aY r]:=by
 obtain⟨hb,rfl⟩:=js hm;obtain⟨hb,h3⟩:=eM hb;obtain⟨h1,h2⟩:=eM hb;rw[jj,lq] at h3;exact aa0 ax fun r s hr hs=>by
  obtain⟨q,e,hq,hq'⟩:=acB hr hs h1 h2 h3;refine⟨_,V6 e,fun H v h=>?_⟩;exact aq4 (fun _=>RP hq) (fun _=>RP hq') h
def Ud{x y:Int}{r:Int}(hm:DM x y=some r):cw 178 [nH x,nH y] [nH r]:=by
 obtain⟨hb,rfl⟩:=js hm;obtain⟨h1,h2⟩:=eM hb;exact aa0 ax fun r s hr hs=>by obtain⟨q,e,hq⟩:=Yn hr hs h1 h2;exact⟨_,wk e,Ut hq⟩
def NB{a0 a1 r}(q:zq a0 a1=some r):cw 103 [aY a0,aY a1] [aY r]:=
 dp func103 O ax<|rS<|cX<|cX<|cT W<|aj 28 O<|oK q fun x1 h2 x3 h4 x5 h6 q=>gE 12 mixed<|dQ 0 O mA O m<|dQ 0 O mA O m<|dP [6,8] O (oC (Ud h2) O)<|dQ 1 O lL O m<|dQ 1 O lL O m<|dP [11,13] O (oC (Ud h4) O)<|dP [9,14] O (oC (X7 h6) O)<|dS [4,15] O (ds O O O d)<|dN<|dE [4] O ax<|cD<|al (mE q O d)
end
end Trn
