/-
  Part of the proof of DrawMoves.
-/
import Derived.Test.YtokjddaclakenaaGreatDoorWe
set_option maxRecDepth 100000
set_option maxHeartbeats 20000000
set_option linter.all false
open Go Go.RowKit Go.Proofs Go.Proofs.Tryz
namespace Trn
section
variable[D:DR]
def xT{a0 a1 a2 r}(q:rj a0 a1 a2=some r):cw 165 [(TP eC) a0,aq a1,aq a2] [TiZ r]:=by
 refine dp func165 O ax<| ?_
 refine rS<|cX<|cX<|cI<|aj 49 O ?_
 refine agV O ?_;refine rS<|cP (He (K:=24) (E:=3) (Eb:=0) (sz:=0) (α:=aev×aev×aev) (β:=Int) aR (fun v=> .val (TiZ v)))<|cS (bE O O (cq O) _ (Or.inl O))<|aj 177 O ?_
 refine rS<|cB<|aj 433 O ?_
 refine ae<|agW (ar ?_)
 refine ae<|rS<|cM<|cP (tS (aT O))<|cP (eT (aT O) O (aQ.agg (i:=0) O O) EY)<|cR O OK<|cJ SJ O<|cN<|aj 469762480 O ?_
 refine ah<|jE [4,5,26,27] O (σ:=(asv (auw×Int))×Bool×Int) (fun s1=>[(7,.oQ 24 3 0 0 (mM aR (fun v=> .val (TiZ v)) s1.1)),(8,.val (aZ s1.2.1)),(28,.val (TiZ s1.2.2))]) q O (fun k2 s1 q=>?_)
 refine rS<|cL O O<|aj 1006633392 O ?_
 refine ae<|gc O q (fun hb3 q=>?_) fun hb3 q=>?_
 ·refine ai<|ar<|ae<|uS [4,5,26,27,28] O (α:=(asv (auw×Int))×Bool) (fun s4=>[(7,.oQ 24 3 0 0 (mM aR (fun v=> .val (TiZ v)) s4.1)),(8,.val (aZ s4.2))]) q (fun k5 q=>?_) (fun s4 q=>?_)
  ·refine ah ?_;obtain⟨x6,h7,q⟩:=aA q;refine rS<|cP (oX abU (eE O) O O h7)<|cR O Hk<|cA<|aj 469763504 O ?_
   refine rS<|cP (bf bm 255 16)<|aj 469765552 O ?_
   refine ae<|rS<|cM<|cJ np O<|cN<|aj 30534535600 O ?_
   refine ah<|jE [4,5,7,8,26,27,28,32,33] O (σ:=(asv (V3×Rat))×Int) (fun s8=>[(11,.buf 255 16 (lT bm s8.1)),(34,.val (TiZ s8.2))]) q O (fun k9 s8 q=>?_)
   refine rS<|cL O O<|aj 64894273968 O ?_
   refine ae<|gc O q (fun xI q=>?_) fun xI q=>?_
   ·refine ai<|ar<|ae<|uS [4,5,7,8,26,27,28,32,33,34] O (α:=(asv (V3×Rat))) (fun Dr=>[(11,.buf 255 16 (lT bm Dr))]) q (fun JD q=>?_) (fun Dr q=>?_)
    ·refine ah ?_;obtain⟨jK,ot,q⟩:=aA q;refine rS<|cP (oX vx (eE O) O O ot)<|cR O gk<|cT iX<|cs O O O gk<|aj 30534543792 O ?_
     obtain⟨kH,S,jH,U,q⟩:=b2 q;refine rS<|cU O gk<|cU O g<|cC (gZ S) O<|cC (jL U) O<|aj 2229557799344 O ?_
     refine ah<|rS<|cP (dv (aT O) aI)<|cA<|aj 6627604310448 O ?_
     refine gc O q (fun adz q=>?_) fun adz q=>?_
     ·exact aN (cm q O)
     ·refine rS<|cP (dv (aT O) aI)<|cA<|aj 17622720588208 O ?_
      refine gc O q (fun Ht q=>?_) fun Ht q=>?_
      ·obtain⟨kL,uX,q⟩:=aA q;exact rK<|cQ<|cU O gk<|cP (bS iX KU O O)<|cS (dF np KZ (eE O) O O (aT O) uX (cq O))<|cS (bE O O (cq O) _ (Or.inl O))<|aj 30534535600 O (cm q O)
      ·exact ai (cm q O)
    ·refine ar ?_;obtain⟨lD,xc,q⟩:=aA q;exact rK<|cH O xc<|cO (oM O)<|aj 30534535600 O (cm q O)
   ·refine aN<|ar<|rS<|cO (aC aB)<|aj 469764528 O ?_
    refine ae<|rS<|cQ<|cP (nM np O O)<|cP (dv (aT O) aI)<|aj 9007199724505520 O ?_
    refine gc O q (fun O0 q=>?_) fun O0 q=>?_
    ·refine rS<|cI<|cF [6] O ?_
     cases q;exact al (r1 O)
    ·refine ai (ar ?_);obtain⟨AS,KS,rA,Hy,sv,DI,rz,KR,z8,O6,vk,SX,q⟩:=b6 q;obtain⟨HW,Vj,q⟩:=aA q;refine gE 17 mixed<|dP [5] O (ab O g)<|dP [11] O (fa)<|dP [55,11] O (eK vx O O aI KS)<|dP [56,11] O (rO O kr)<|dP [57,11] O (Al (f:=bm) (fun _=>O) O O (bH Hy) O (aQ.agg (i:=0) O O) g)<|dP [54,58] O (oC (j7 DI) O)<|dP [5] O (ab O g)<|dP [11] O (fa)<|dP [61,11] O (eK vx O O aI KR)<|dP [62,11] O (rO O kr)<|dP [63,11] O (Al (f:=bm) (fun _=>O) O O (bH O6) O (aQ.agg (i:=0) O O) g)<|dP [60,64] O (oC (j7 SX) O)<|dP [65] O (oC (rF Vj) O)<|dP [] O (gW bJ)<|dP [] O (gW bJ)<|dS [14,59] O (ds O O O g)<|dS [15,66] O (ds O O O g)<|dN<|dE [4,5,7,8,11,14,15,26,27,28] O ax<|cD ?_
     refine ae ?_;obtain⟨Rv,h41,q⟩:=aA q;refine rS<|cQ<|cG (iM (t:=11) O)<|cG (km (s:=67) O O)<|cP (tl vx (eE O) (aT O) (Lo.some aI) Lo.none h41)<|cJ np O<|cN<|aj 2066035336255939592624 O ?_
     refine ah<|jE [4,5,7,8,26,27,28,68,69] O (σ:=V3×V3×Int) (fun Gc=>[(14,.own 102 (aq Gc.1)),(15,.own 102 (aq Gc.2.1)),(70,.val (TiZ Gc.2.2))]) q O (fun k43 Gc q=>?_)
     refine rS<|cL O O<|aj 4427218577690762199472 O ?_
     refine ae<|gc O q (fun adu q=>?_) fun adu q=>?_
     ·refine ai<|ar<|ae<|uS [4,5,7,8,26,27,28,68,69,70] O (α:=V3×V3) (fun rB=>[(14,.own 102 (aq rB.1)),(15,.own 102 (aq rB.2))]) q (fun k46 q=>?_) (fun rB q=>?_)
      ·refine ah ?_;obtain⟨PJ,Tq,q⟩:=aA q;refine rS<|cP (oX vx (eE O) O O Tq)<|cR O gk<|cT iX<|cs O O O gk<|aj 2066035336255939723696 O ?_
       obtain⟨LH,h50,q⟩:=aA q;refine rS<|cU O g<|jt 0 O kr O g<|cC (j7 h50) O<|cT bJ<|cs O O O g<|aj 2066035336255939985840 O ?_
       obtain⟨K2,Vi,GY,Vh,q⟩:=b2 q;refine rS<|jt 0 O kr O g<|cU O g<|cC (eI Vi) O<|cC (jL Vh) O<|cP (da (aT O) aI)<|aj 9673472592253289337504176 O ?_
       refine gc O q (fun ajr q=>?_) fun ajr q=>?_
       ·exact rK<|cU O g<|cs O O O g<|aj 2066035336255939592624 O (cm q O)
       ·obtain⟨Mk,h57,q⟩:=aA q;exact rK<|cU O g<|cC (rF h57) O<|cs O O O g<|aj 2066035336255939592624 O (cm q O)
      ·refine ar ?_;obtain⟨Mj,h59,q⟩:=aA q;exact rK<|cH O h59<|cO (oM O)<|aj 2066035336255939592624 O (cm q O)
     ·refine aN (ar ?_);obtain⟨Tv,h61,DT,Mf,Ru,h65,q⟩:=b3 q;refine ae<|Y1 (k:=4) (kl:=[[(88,[7])],[(89,[])],[(90,[])],[(91,[])]]) (L:=[]) (av:=[[],[],[1],[1,2],[0,1,2,3],[0,1,2,3,4],[0,1,2,3],[0,1,2,3,6],[0,1,2,3,4,5,6,7]]) (jb:=[[],[14],[89],[90]]) (ja:=[true,true,true,true]) (F:=TiZ) (l:=s1.1) (x:=DT) (z:=0) (y:=Ru) (t:=7) (dL:=92) (dB:=93) (dM:=94) (dX:=95) O mixed ax (bT.cons vi.nil (fa) O O (cq O) (bT.cons (sS [14] O) (ab O g) O O (cq O) (bT.cons (sS [89] O) (fS (vq h61) (aJ.cons (aT O) aJ.nil)) O O (cq O) (bT.cons (sS [90] O) (fS (Cb Mf) (aJ.cons (aT O) aJ.nil)) O O (cq O) (bT.nil))))) O O (sS [4,5,7,8,15,26,27,28,88,91] O) (sS [7,4,5,8,15,26,27,28,88,91] O) O O O O O O (Kx (F:=TiZ) (x:=DT) (z:=0) Cx aap pq (kd.same O) O (aT O)) (Kx (F:=TiZ) (x:=DT) (z:=0) Cx aap pq (kd.same O) O (aT O)) (cg (aT O) aI h65) (TO (F:=TiZ) (x:=DT) (z:=0) Cx aap pq (kd.same O) O (aT O) (cq O) O) (dW O O) (XY (x:=DT) (y:=Ru) (z:=0) (kd.same O) O (aT O) (aT O)) (ar ?_)
      obtain⟨x66,h67,XN,h69,x70,h71,q⟩:=b3 q;exact Y1 (k:=4) (kl:=[[(96,[7])],[(97,[])],[(98,[])],[(99,[])]]) (L:=[7]) (av:=[[],[],[1],[1,2],[0,1,2,3],[0,1,2,3,4],[0,1,2,3],[0,1,2,3,6],[0,1,2,3,4,5,6,7]]) (jb:=[[],[15],[97],[98]]) (ja:=[true,true,true,true]) (F:=TiZ) (l:=(rh s1.1 DT Ru)) (x:=XN) (z:=0) (y:=x70) (t:=7) (dL:=100) (dB:=101) (dM:=102) (dX:=103) O mixed ax (bT.cons vi.nil (fa) O O (cq O) (bT.cons (sS [15] O) (ab O g) O O (cq O) (bT.cons (sS [97] O) (fS (vq h67) (aJ.cons (aT O) aJ.nil)) O O (cq O) (bT.cons (sS [98] O) (fS (Cb h69) (aJ.cons (aT O) aJ.nil)) O O (cq O) (bT.nil))))) O O (sS [4,5,7,8,26,27,28,96,99] O) (sS [7,4,5,8,26,27,28,96,99] O) O O O O O O (Kx (F:=TiZ) (x:=XN) (z:=0) Cx aap pq (kd.same O) O (aT O)) (Kx (F:=TiZ) (x:=XN) (z:=0) Cx aap pq (kd.same O) O (aT O)) (bt (aT O) aI h71) (TO (F:=TiZ) (x:=XN) (z:=0) Cx aap pq (kd.same O) O (aT O) (cq O) O) (dW O O) (XY (x:=XN) (y:=x70) (z:=0) (kd.same O) O (aT O) (aT O)) (cm q O)
  ·refine ar ?_;obtain⟨x72,h73,q⟩:=aA q;exact rK<|cH O h73<|cO (oM O)<|aj 469762480 O (cm q O)
 ·refine aN<|ar<|ae<|rS<|cM<|cP (iN (aT O))<|cF [7,106] O ?_
  refine gc O q (fun apP q=>?_) fun apP q=>?_
  ·refine rS<|cI<|cF [6] O ?_
   cases q;exact al (r1 O)
  ·refine ai<|ar<|rS<|cP (bf aR 24 3)<|cF [7,19] O ?_
   refine ae<|rS<|cQ<|cG (Ur (t:=7) O)<|cG (aho (u:=107) O O)<|cP (Oo Cx (aT O))<|cF [19,108] O ?_
   refine ah<|SY (it:=108) (fun(p:auw×Int)=>(aR p.1,TiZ p.2)) (σ:=(asv auw)) (fun vd=>[(19,.buf 24 3 (lT aR vd))]) (BO q) (sS [108,19] O) (fun seen vd hT hE=>?_)
   refine ae<|Xh O (sS [19] O) O O (fun j hj hn=>ar ?_) (fun hE2=>ar ?_)
   ·obtain⟨QC,hx⟩:=ajW hj;obtain⟨z77,q⟩:=hT j QC hx hn;have hf:=q;refine ae (sY O (fun _=>ai (ar ?_)) (fun h=>by cases h));refine ah<|rS<|cP (Ow (k:=aR QC.1) (e:=TiZ QC.2) O (by simp[hx]))<|cE<|cE<|cT il<|cs O O O B<|cA<|cF [19,20,21,108] O ?_
    refine rS<|cM<|cP (db (aT O) aI)<|cF [19,20,108,115] O ?_
    refine gc O q (fun apO q=>?_) fun apO q=>?_
    ·obtain⟨Th,h80,q⟩:=aA q;cases q;refine rK<|cQ<|cU O B<|cP (bS il LD O O)<|cS (dF xH ahZ (eE O) O O (aT O) h80 (cq O))<|cS (bE O O (cq O) _ (Or.inl O))<|cF [19,108] O (fun a w H hs=>?_)
     try unfold Exit.then
     try unfold Exit.inBlock
     try simp only[if_true]
     exact⟨_,_,_,hx,hn,hf,H,hs.weaken (vi.sub (sS [108,19] O))⟩
    ·cases q;refine ai (fun a w H hs=>?_)
     try unfold Exit.then
     try unfold Exit.inBlock
     try simp only[if_true]
     exact⟨_,_,_,hx,hn,hf,H,hs.weaken (vi.sub (sS [108,19] O))⟩
   ·have q:=hE hE2;refine ae (sY O (fun h=>by cases h) (fun _=>?_));refine aN<|ar<|ae<|ah<|rS<|cQ<|cP (nM xH O O)<|cP (dv (aT O) aI)<|cA<|cF [19,120] O ?_
    refine gc O q (fun ajq q=>?_) fun ajq q=>?_
    ·refine rS<|cI<|cF [6] O ?_
     cases q;exact al (r1 O)
    ·obtain⟨x82,h83,q⟩:=pW q;obtain⟨QB,h85,q⟩:=pW q;obtain⟨x86,h87,q⟩:=pW q;obtain⟨x88,h89,q⟩:=pW q;obtain⟨x90,h91,q⟩:=pW q;obtain⟨x92,h93,q⟩:=pW q;obtain⟨XK,h95,q⟩:=pW q;obtain⟨Zl,h97,q⟩:=pW q;refine gE 16 mixed<|dP [19] O (fa)<|dP [125,19] O (nM xH O O)<|dP [126] O (dv (aT O) aI)<|dP [127] O (oM O)<|dV [19,128] O O O (ov 19 O on) (fun rD=>fa)<|dV [128,129,19] O O O (oo 129 O id (ov 19 O on)) (fun hg2=>eK Ei O O aI (h83 hg2))<|dV [128,130,19] O O O (oo 130 O id (ov 19 O on)) (fun M=>pd (f:=aR) (fun _=>O) O O (bH (h85 M)) B)<|dV [128,131] O O O (oo 131 O id on) (fun wa=>oC (im (h87 wa)) O)<|dV [19,128] O O O (ov 19 O on) (fun zW=>fa)<|dV [128,133,19] O O O (oo 133 O id (ov 19 O on)) (fun Bm=>eK Ei O O aI (h89 Bm))<|dV [128,134,19] O O O (oo 134 O id (ov 19 O on)) (fun Hp=>pd (f:=aR) (fun _=>O) O O (bH (h91 Hp)) B)<|dV [128,135] O O O (oo 135 O id on) (fun Na=>oC (im (h93 Na)) O)<|dV [128,132,136] O O O (oo 132 O id (oo 136 O id on)) (fun PR=>oC (jS (h95 PR)) O)<|dV [128,137] O O O (oo 137 O id on) (fun EN=>oC (l7 (h97 EN)) O)<|dP [128,138] O (dI (aT O) O j6)<|dP [139] O (oA O)<|dN<|dE [124] O ax<|cD ?_
     refine gc O q (fun ajp q=>?_) fun ajp q=>?_
     ·refine rS<|cI<|cF [6] O ?_
      cases q;exact al (r1 O)
     ·refine ai<|ar<|rS<|cI<|cF [6] O ?_
      cases q;exact al (r1 O)
def sK{a0 r}(q:mm a0=some r):fC prog 237 [(TN aW) a0] (.fr 269 8 (lT aW r)):=
 dp func237 O ax<|rS<|cP (bf aW 269 8)<|aj 1 O<|ae<|rS<|cM<|cP (rf oH (aT O))<|aj 17 O<|gc O q (fun hb1 q=>rS<|cP (bf aW 269 8)<|aj 4 O<|by cases q;exact al (xL O O O O)) fun hb1 q=>ai (ar (ba q fun x2 h3 q=>rS<|cP (JU aW HG)<|cM<|cS (yn oH HK (eE O) O ((aT O).imp Zd) h3 (cq O))<|cS (bE O O (cq O) _ (Or.inl O))<|aj 4 O<|by cases q;exact al (xL O O O O)))
def NJ{a0 a1 r}(q:EF a0 a1=some r):cw 239 [aW a0,aW a1] [TiZ r]:=
 dp func239 O ax<|rS<|cX<|cX<|cI<|aj 12 O<|ba q fun x1 h2 q=>rS<|jt 0 O so O d<|jt 0 O so O d<|cC (rM h2) O<|cA<|cF [4] O<|al (eS q O)
def NI{a0 c0 r}(q:EE a0 c0=some r):gi prog 240 [aW a0] (.rC 267 false [.buf 269 8 (lT aW c0)]) (.rC 267 false [.buf 269 8 (lT aW r)]) [] []:=
 vY (N:=41) func240 O ntmps240 (by simp) aka O O fun w1 v w0 H0 hk=>by exact mz (sS [0,1,41] O)<|rS<|cX<|cF [1,2,41] O<|ae<|rS<|cS (Cg (i:=0) true (jF.box O) O O O O Hj (cq O) O)<|cP (af3 oH O)<|cA<|cF [1,2,3,4,41] O<|kO q fun x1 h2 q=>kO q fun x3 h4 q=>kO q fun x5 h6 q=>kO q fun x7 h8 q=>gE 14 mixed<|dP [3] O (oM O)<|dP [6] O (da (aT O) aI)<|dP [7] O (oM O)<|dV [2,8] O O O (ov 2 O on) (fun rD=>aO O so)<|dV [8,9,2] O O O (oo 9 O id (ov 2 O on)) (fun hg2=>oP 0 O O d)<|dV [1,8] O O O (ov 1 O on) (fun M=>Sb (i:=0) (jF.box O) O O O Hj)<|dV [3,8] O O O (ov 3 O on) (fun wa=>oM O)<|dV [8,12] O O O (oo 12 O id on) (fun zW=>bt (aT O) aI (h2 zW))<|dV [8,11,13,4] O O O (oo 11 O id (oo 13 O id (ov 4 O on))) (fun Bm=>eK Ch O O (aT O) (h4 Bm))<|dV [8,14,4] O O O (oo 14 O id (ov 4 O on)) (fun Hp=>rO O nV)<|dV [8,15,4] O O O (oo 15 O id (ov 4 O on)) (fun Na=>Al (f:=aW) (fun _=>O) O O (bH (h6 Na)) O (aQ.agg (i:=1) O O) d)<|dV [8,10,16] O O O (oo 10 O id (oo 16 O id on)) (fun PR=>oC (rM (h8 PR)) O)<|dV [8,17] O O O (oo 17 O id on) (fun EN=>vC (aT O) aI)<|dP [8,18] O (dI (aT O) O j6)<|dN<|dE [1,2,3,4,19,41] O ax<|cD<|gc O q (fun OZ q=>ae<|LF q fun eF j5 fJ lK gH mF ib Q q=>gE 10 mixed<|dQ 1 O nV O d<|dP [1] O (Sb (i:=0) (jF.box O) O O O Hj)<|dP [3] O (oM O)<|dP [23] O (bt (aT O) aI j5)<|dP [22,24,4] O (eK Ch O O (aT O) lK)<|dP [25,4] O (rO O nV)<|dP [26,4] O (Al (f:=aW) (fun _=>O) O O (bH mF) O (aQ.agg (i:=1) O O) d)<|dP [21,27] O (oC (rM Q) O)<|dP [28] O (da (aT O) aI)<|dN<|dE [1,2,3,4,29,41] O ax<|cD<|uS [1,41] O (α:=(asv (Rat×Rat))) (fun VO=>[(4,.buf 269 8 (lT aW VO))]) q (fun YD q=>by exact gc O q (fun Ht q=>oK q fun kL uX lD xc pt Bo q=>by exact rK<|cP (Sb (i:=0) (jF.box O) O O O Hj)<|cM<|cP (bt (aT O) aI uX)<|jt 1 O nV O d<|cP (eK Ch O O (aT O) xc)<|cP (rO O nV)<|cS (aii (f:=aW) (y':=(pt.1,a0.2)) (fun _=>O) O O (bH Bo) (aT O) O (iQ.agg (i:=1) O O O) d)<|cF [1,4,41] O (cm q O)) fun Ht q=>ai (cm q O)) (fun VO q=>by exact ar<|by cases q;exact al (fL (xf (t:=1) (u:=4) (i:=0) O O O O) (Xz hk O bu.nil O O O O)))) fun OZ q=>ai (ar (ba q fun pr C4 q=>by cases q;exact rK<|cP (Sb (i:=0) (jF.box O) O O O Hj)<|cU O uB<|cP (bS mN HG O O)<|cS (dF oH HK (eE O) O O (aT O) C4 (cq O))<|cS (G7 (i:=0) (jF.box O) O O O (xN.buf O) O Hj)<|cG (xf (t:=1) (u:=40) (i:=0) O O O O)<|cY (sS [1,41] O) (XA hk O bu.nil O O O O)))
def Ca{a0 r}(q:kK a0=some r):cw 166 [(TN aW) a0] [(TL aW) r]:=by
 refine dp func166 O ax<|rS<|cP (aC (Arg.nn (f:=aW)))<|aj 1 O ?_
 obtain⟨x1,h2,q⟩:=aA q;refine rS<|cM<|cC (sK h2) O<|cS (bE O O (cq O) _ (Or.inl O))<|aj 1 O ?_
 obtain⟨x3,h4,q⟩:=aA q;refine rS<|cQ<|cS (kj (xs:=[]) (ys:=[.func 239]) (ZQ h4) (eP.same O) O O O aJ.nil (aJ.cons (Arg.fn fun _ _ h=>NJ (D:=DR.strict) h) aJ.nil) (cq O) O)<|aj 1 O<|rS<|cPr (Fs (ps:=[.buf 269 8 []]) false (HY) IT (zU.buf O zU.nil)) O<|aj 9 O<|rS<|cP (acs (us:=[3]))<|cP (acw O)<|aj 25 O<|ae<|rS<|cG (iM (t:=0) O)<|cM<|cJ oH O<|cN<|aj 28696 O<|ah<|jE [4,12,13] O (σ:=(asv (Rat×Rat))×Int) (fun s5=>[(3,.rC 267 false [.buf 269 8 (lT aW s5.1)]),(14,.val (TiZ s5.2))]) q O (fun k6 s5 q=>?_)
 refine rS<|cL O O<|aj 61464 O<|ae<|gc O q (fun Bn q=>?_) fun Bn q=>?_
 ·refine ai<|ar<|ae<|ah ?_
  obtain⟨x8,h9,q⟩:=aA q;refine rS<|cP (oX Ch (eE O) O O h9)<|cR O uB<|cT mN<|cs O O O uB<|aj 28760 O ?_
  obtain⟨eF,j5,q⟩:=aA q;refine rK<|cP (acr O)<|cU O uB<|cS (aih (NI j5) O O O O (aJ.cons (aT O) aJ.nil) (cq O) O)<|aj 28696 O (ar ?_)
  obtain⟨fJ,lK,q⟩:=aA q;exact rK<|cH O lK<|cO (oM O)<|aj 28696 O (cm q O)
 ·refine aN<|ar<|rS<|cS (Cg (i:=0) true (jF.box O) O O O O Hj (cq O) O)<|cS (bE O O (cq O) _ (Or.inl O))<|aj 4 O ?_
  cases q;exact al (fL (iM (t:=2) O) (gp O O (bu.tmp O O bu.nil)))
def BC{a0 a1 r}(q:lf a0 a1=some r):cw 168 [cp a0,cp a1] [TiZ r]:=
 dp func168 O ax<|rS<|cX<|cX<|cI<|aj 12 O<|ae<|ba q fun x1 h2 q=>rS<|jt 0 O nt O g<|jt 0 O nt O g<|cC (mR h2) O<|cA<|aj 44 O<|rS<|cM<|cP (db (aT O) aI)<|aj 4140 O<|gc O q (fun hb3 q=>rS<|cM<|cA<|cF [4] O<|al (eS q O)) fun hb3 q=>ai (ar (ba q fun x4 h5 q=>rS<|jt 1 O uK O g<|jt 1 O uK O g<|cC (mR h5) O<|cA<|cF [4] O<|al (eS q O)))
def vb{a0 r}(q:pf a0=some r):cw 95 [(TP eC) a0] [(TL cp) r]:=by
 refine dp func95 O ax<|rS<|cX<|cP (bf cp 177 24)<|aj 2 O<|rS<|cP (He (K:=265) (E:=261) (Eb:=0) (sz:=0) (α:=auw×auw) (β:=V3×V3) iD (fun v=> .val (nv v)))<|cS (bE O O (cq O) _ (Or.inl O))<|aj 10 O ?_
 refine ae<|EP O (fP.cons (Step.pure (He (K:=265) (E:=267) (Eb:=269) (sz:=8) (α:=auw×auw) (β:=asv (Rat×Rat)) iD (fun v=> .buf (lT aW v))) O O (cq O) O O) (fP.cons (Step.pure (Fs false abo IT (zU.val zU.nil)) O O (cq O) O O) (fP.cons (G7 (i:=0) (jF.box O) O O O (xN.oQ O) O WK) (fP.ghost (xe (t:=4) (u:=25) (i:=0) O O O O) (fP.fin (sS [1,3,4] O)))))) (ar ?_)
 refine ae<|rS<|cU O CX<|cP (tS (aT O))<|cP (eT (aT O) O (aQ.agg (i:=0) O O) EY)<|cR O OK<|cJ SJ O<|cN<|aj 3221225498 O<|ah<|jE [1,30] O (σ:=(asv ((auw×auw)×(V3×V3)))×(asv ((auw×auw)×(asv (Rat×Rat))))×Int) (fun s1=>[(3,.oQ 265 261 0 0 (mM iD (fun v=> .val (nv v)) s1.1)),(4,.rC 258 false [.map 265 267 269 8 (mM iD (fun v=> .buf (lT aW v)) s1.2.1)]),(31,.val (TiZ s1.2.2))]) q O (fun k2 s1 q=>?_)
 refine rS<|cL O O<|aj 7516192794 O<|ae<|gc O q (fun hb3 q=>?_) fun hb3 q=>?_
 ·refine ai<|ar<|ae<|ah<|rS<|cM<|cA<|aj 3221225530 O ?_
  obtain⟨x4,h5,q⟩:=aA q;refine rS<|cU O CX<|cM<|cC (G4 h5) O<|cJ JF O<|cN<|aj 484257562650 O<|ah<|jE [1,30,31,36,37] O (σ:=(asv ((auw×auw)×(V3×V3)))×(asv ((auw×auw)×(asv (Rat×Rat))))×Int) (fun s6=>[(3,.oQ 265 261 0 0 (mM iD (fun v=> .val (nv v)) s6.1)),(4,.rC 258 false [.map 265 267 269 8 (mM iD (fun v=> .buf (lT aW v)) s6.2.1)]),(38,.val (TiZ s6.2.2))]) q O (fun k7 s6 q=>?_)
  refine rS<|cL O O<|aj 1034013376538 O<|ae<|gc O q (fun X q=>?_) fun X q=>?_
  ·refine ai<|ar<|ae<|ah ?_
   obtain⟨x9,kB,q⟩:=aA q;refine rS<|cP (oX Wg (eE O) O O kB)<|cR O uC<|cT Bu<|cs O O O uC<|aj 484257562778 O ?_
   obtain⟨iY,qS,q⟩:=aA q;refine rS<|jt 1 O uK O g<|jt 0 O nt O g<|cC (iZ qS) O<|cT bJ<|cs O O O g<|aj 484257563034 O<|rS<|cP (bf aY 100 4)<|aj 484257563546 O<|ae<|rS<|cU O CX<|cP (tS (aT O))<|cP (eT (aT O) O (aQ.agg (i:=2) O O) EX)<|cR O Hk<|cJ np O<|cN<|aj 7881783605461914 O<|ah<|jE [1,3,4,7,8,30,31,36,37,38,50,51] O (σ:=asv Rat×Int) (fun s13=>[(9,.buf 100 4 (lT aY s13.1)),(52,.val (TiZ s13.2))]) q O (fun k14 s13 q=>?_)
   refine rS<|cL O O<|aj 16888982860202906 O<|ae<|gc O q (fun ajy q=>?_) fun ajy q=>?_
   ·refine ai<|ar<|ae<|uS [1,3,4,7,8,30,31,36,37,38,50,51,52] O (α:=(asv Rat)) (fun s16=>[(9,.buf 100 4 (lT aY s16))]) q (fun k17 q=>?_) (fun s16 q=>?_)
    ·refine ah ?_;obtain⟨jG,qt,q⟩:=aA q;refine rS<|cP (oX vx (eE O) O O qt)<|cR O gk<|cT iX<|cs O O O gk<|aj 7881783605463962 O ?_
     obtain⟨lN,h21,q⟩:=aA q;refine rS<|jt 0 O kr O g<|cU O g<|cC (eI h21) O<|cT W<|cs O O O d<|aj 7881783605468058 O ?_
     obtain⟨nZ,DJ,q⟩:=aA q;refine rS<|cU O d<|cC (jL DJ) O<|cP (db (aT O) aI)<|aj 4619567802032855962 O<|gc O q (fun O1 q=>?_) fun O1 q=>?_
     ·obtain⟨pt,Bo,pr,C4,xR,Gi,xl,EO,q⟩:=b4 q;exact gD 11 mixed<|dP [9] O (fa)<|dP [11] O (ab O gk)<|dQ 0 O nt O g<|dP [64,66] O (oC (gZ Bo) O)<|dP [67] O (oC (GB C4) O)<|dP [12] O (ab O d)<|dP [68,69] O (oC (Ee Gi) O)<|dP [70] O (bS W Bp O O)<|dG [63] [63,71,9] O (qg nr Bq (eE O) O O (aT O) EO (cq O))<|dG [] [72] O (uG O O (cq O) _ (Or.inl O))<|dN<|dE [1,3,4,7,8,9,30,31,36,37,38,50,51,52] O ax<|cD (cm q O)
     ·exact ai (cm q O)
    ·refine ar ?_;obtain⟨xQ,Gh,q⟩:=aA q;exact rK<|cH O Gh<|cO (oM O)<|aj 7881783605461914 O (cm q O)
   ·refine aN (ar ?_);obtain⟨uT,Hx,q⟩:=aA q;refine rS<|cU O uC<|cC (Gx Hx) O<|cT Fg<|cs O O O KE<|aj 484257571738 O ?_
    obtain⟨yS,KQ,uQ,Hw,q⟩:=b2 q;refine gE 9 mixed<|dQ 0 O uJ O g<|dP [77] O (oC (Cb KQ) O)<|dQ 1 O EW O g<|dP [80] O (oC (Cb Hw) O)<|dP [78,81] O (bB Rr afn O)<|dP [] O (gW Rr)<|dS [14,82] O (ds O O O OJ)<|dN<|dE [1,3,4,7,8,9,13,14,30,31,36,37,38] O ax<|cD<|rS<|cQ<|cU O OJ<|cU O KE<|cS (abN (F:=nv) (x:=(yS,uQ)) (y:=uT) Yq acW (kd.same O) O (aT O) (aT O))<|aj 484257588122 O ?_
    obtain⟨Bw,Mg,B8,Qr,LI,Xe,q⟩:=b3 q;refine rS<|cC (Mo Mg) O<|cC (Mo Qr) O<|cQ<|cG (iM (t:=9) O)<|cG (km (s:=88) O O)<|cC (A0 Xe) O<|aj 618970019642690621707149722 O<|ah ?_
    obtain⟨K2,Vi,q⟩:=aA q;refine C6 (σ:=(asv ((auw×auw)×(asv (Rat×Rat))))) [1,3,4,7,8,13,14,30,31,36,37,38] (fun s47=>[(1,.own 173 ((TP eC) a0)),(3,.oQ 265 261 0 0 (mM iD (fun v=> .val (nv v)) (rh s6.1 (yS,uQ) uT))),(4,.rC 258 false [.map 265 267 269 8 (mM iD (fun v=> .buf (lT aW v)) s47)]),(7,.own 177 (cp x9)),(8,.own 102 (aq iY)),(13,.own 261 (nv uT)),(14,.own 265 (iD (yS,uQ))),(30,.val (TiZ (a0.1.length:Int))),(31,.val (TiZ s1.2.2)),(36,.val (TL cp x4)),(37,.val (TiZ (x4.length:Int))),(38,.val (TiZ s6.2.2))]) none q Vi O O O (sS [1,3,4,7,8,13,14,30,31,36,37,38] O) (fun _=>O) (fun G h=>by cases h) (fun _=>O) O (by decide) (fun wr Hr l rc pv k50 B7 s47 VS q=>?_) (fun s47 q=>ar ?_) (fun G h=>by cases h)
    ·
     refine rS<|cT W<|cs O O O d<|aj 2898916381420170925224308830875793251063435906267517263785550234 O<|rK<|cT W<|cs O O O d<|aj 2898916381420170925224308830875793248587555827696756713987367322 O (Pu (sS [171,1,3,4,7,8,13,14,15,16,30,31,36,37,38,173,175,176,179,180,185,186,202,203,208,209,210] O) O ?_)
     refine ah<|ae ?_
     obtain⟨GY,Vh,Nn,h56,x57,h58,q⟩:=b3 q;refine gE 9 mixed<|dP [1] O (ab O CX)<|dP [7] O (ab O uC)<|dP [15] O (ab O d)<|dP [16] O (ab O d)<|dP [94,95] O (oC (A1 Vh) O)<|dP [93,96] O (oC (kR h56) O)<|dP [8] O (ab O g)<|dP [92,97,98] O (oC (xT h58) O)<|dP [99] O (db (aT O) aI)<|dN<|dE [1,3,4,7,8,13,14,15,16,30,31,36,37,38,100,171,173,175,176,179,180,185,186,202,203,208,209,210] O ax<|cD<|gc O q (fun apW q=>?_) fun apW q=>?_
     ·exact aN (yM (K1:=none) q (sS [171,173,175,176,179,180,185,186,202,203,208,209,210,1,3,4,7,8,13,14,30,31,36,37,38] O))
     ·refine ai (ar ?_);obtain⟨Tv,h61,DT,Mf,Ru,h65,x66,h67,q⟩:=b4 q;refine gE 16 mixed<|dP [7] O (ab O uC)<|dP [15] O (ab O d)<|dP [101,102] O (oC (kR h61) O)<|dQ 0 O uJ O g<|dP [103,105] O (oC (mS Mf) O)<|dP [7] O (ab O uC)<|dP [16] O (ab O d)<|dP [107,108] O (oC (kR h65) O)<|dQ 0 O uJ O g<|dP [109,111] O (oC (mS h67) O)<|dP [] O (gW W)<|dP [] O (gW W)<|dS [17,106] O (ds O O O d)<|dS [18,112] O (ds O O O d)<|dN<|dE [1,3,4,7,8,13,14,17,18,30,31,36,37,38,171,173,175,176,179,180,185,186,202,203,208,209,210] O ax<|cD ?_
      refine ae ?_;obtain⟨XN,h69,q⟩:=aA q;refine rS<|cU O d<|cU O d<|cC (rM h69) O<|cP (da (aT O) aI)<|aj 2898916381420170925224308830958869998324113069753244655255183770 O<|uS [1,3,4,7,8,13,14,30,31,36,37,38,171,173,175,176,179,180,185,186,202,203,208,209,210] O (α:=Rat×Rat) (fun s70=>[(17,.own 100 (aY s70.1)),(18,.own 100 (aY s70.2))]) q (fun k71 q=>?_) (fun s70 q=>?_)
      ·refine gc O q (fun apQ q=>?_) fun apQ q=>?_
       ·exact rK<|cU O d<|cU O d<|cs O O O d<|cs O O O d<|aj 2898916381420170925224308830875793248587555827696756713987662234 O (cm q O)
       ·exact ai (cm q O)
      ·refine ar ?_;obtain⟨LG,h74,q⟩:=aA q;exact EP O (fP.cons (Cg (i:=0) true (jF.box O) O O O O WK (cq O) O) (fP.cons (Step.pure (ab O OJ) O O (cq O) O O) (fP.cons (Step.pure (ab O d) O O (cq O) O O) (fP.cons (Step.pure (ab O d) O O (cq O) O O) (fP.cons (Step.pure (bB DQ Iv O) O O (cq O) O O) (fP.cons (Step.pure (bS mN HG O O) O O (cq O) O O) (fP.cons (abO (x:=(yS,uQ)) (z:=([]:asv (Rat×Rat))) Yp acW VW O kd.own O (aT O) (cq O) O) (fP.ghost (adH (sS [1,3,4,7,8,13,14,17,18,30,31,36,37,38,119,120,122,123,124,125,126,171,173,175,176,179,180,185,186,202,203,208,209,210] O)) (fP.cons (afw O (cq O) O) (fP.cons (yn oH HK (eE O) O (aT O) h74 (cq O)) (fP.ghost (adH (sS [1,3,4,7,8,13,14,17,18,30,31,36,37,38,119,120,122,123,124,125,126,127,171,173,175,176,179,180,185,186,202,203,208,209,210] O)) (fP.cons (Step.pure (dW O O) O O (cq O) O O) (fP.cons (afx (x:=(yS,uQ)) (z:=[]) (y:=LG) kd.own O (aT O) O O) (fP.ghost (xe (t:=4) (u:=119) (i:=0) O O O O) (fP.fin (sS [1,3,4,7,8,13,14,30,31,36,37,38,171,173,175,176,179,180,185,186,202,203,208,209,210] O)))))))))))))))) (yM (K1:=none) q (sS [171,173,175,176,179,180,185,186,202,203,208,209,210,1,3,4,7,8,13,14,30,31,36,37,38] O))
    ·
     obtain⟨QC,h77,q⟩:=aA q;exact rK<|cH O h77<|cO (oM O)<|aj 484257562650 O (cm q O)
  ·refine aN (ar ?_);obtain⟨x78,h79,q⟩:=aA q;exact rK<|cH O h79<|cO (oM O)<|aj 3221225498 O (cm q O)
 ·refine aN<|ar<|ae<|C7 (acd (t:=4) O (uY.yu uY.nil) O)<|rK<|cP (bf cp 177 24)<|aj 524312 O<|ar<|ae<|rS<|cQ<|cG (Ur (t:=3) O)<|cG (aho (u:=131) O O)<|cP (Oo Yq (aT O))<|cF [4,19,132] O<|ah<|SY (it:=132) (fun(p:(auw×auw)×(V3×V3))=>(iD p.1,nv p.2)) (σ:=(asv (V3×V3))) (fun X8=>[(4,.val (nY ((TMp iD (TL aW)) s1.2.1))),(19,.buf 177 24 (lT cp X8))]) (z6 q) (sS [132,4,19] O) (fun seen X8 hT hE=>?_)
  refine ae<|Xh O (sS [4,19] O) O O (fun j hj hn=>ar ?_) (fun hE2=>ar ?_)
  ·obtain⟨zX,hx⟩:=ajW hj;obtain⟨z82,q⟩:=hT j zX hx hn;have hf:=q;refine ae (sY O (fun _=>ai (ar ?_)) (fun h=>by cases h));refine ah<|rS<|cP (Ow (k:=iD zX.1) (e:=nv zX.2) O (by simp[hx]))<|cE<|cE<|cT Rr<|cT Fg<|cs O O O OJ<|cs O O O KE<|cF [4,19,20,21,132] O ?_
   obtain⟨h83,q⟩:=wL q;obtain⟨QB,h85,q⟩:=aA q;refine rS<|cR O WK<|cU O OJ<|cP (Sa (x:=zX.1) (f:=aW) Yp acW HY (aT O) (aT O) h83)<|cC (Ca h85) O<|cJ oH O<|cN<|cF [4,19,21,132,141,142,143] O<|ah<|jE [4,21,132,141,142] O (σ:=(asv (V3×V3))×Int) (fun Qj=>[(19,.buf 177 24 (lT cp Qj.1)),(143,.val (TiZ Qj.2))]) q O (fun k87 Qj q=>?_)
   refine rS<|cL O O<|cF [4,19,21,132,141,142,143,144] O<|ae<|gc O q (fun apM q=>?_) fun apM q=>?_
   ·refine ai<|ar<|ae<|ah ?_
    obtain⟨J7,h90,q⟩:=aA q;refine rS<|cP (oX Ch (eE O) O O h90)<|cR O uB<|cT mN<|cs O O O uB<|cF [4,19,21,23,132,141,142,143] O ?_
    obtain⟨XM,h92,XL,h94,VK,h96,x97,h98,VZ,Xf,q⟩:=b5 q;refine gD 21 mixed<|dP [19] O (fa)<|dQ 1 O EW O g<|dQ 0 O uJ O g<|dQ 0 O so O d<|dP [151,153] O (oC (gU h92) O)<|dP [149,154] O (oC (jS h94) O)<|dQ 1 O EW O g<|dQ 0 O uJ O g<|dQ 1 O nV O d<|dP [159,161] O (oC (gU h96) O)<|dP [157,162] O (oC (jS h98) O)<|dP [155,163] O (bB Nj RV O)<|dP [164] O (bS Bu aeg O O)<|dG [147] [147,165,19] O (qg JF aeo (eE O) O O (aT O) Xf (cq O))<|dG [] [166] O (uG O O (cq O) _ (Or.inl O))<|dN<|dE [4,19,21,132,141,142,143] O ax<|cD (ar ?_)
    obtain⟨LK,adG,q⟩:=aA q;exact rK<|cH O adG<|cO (oM O)<|cF [4,19,21,132,141,142,143] O (cm q O)
   ·cases q;refine aN (fun a w H hs=>?_)
    try unfold Exit.then
    try unfold Exit.inBlock
    try simp only[if_true]
    exact⟨_,_,_,hx,hn,hf,H,hs.weaken (vi.sub (sS [132,4,19] O))⟩
  ·have q:=hE hE2;refine ae (sY O (fun h=>by cases h) (fun _=>?_));refine aN (ar ?_);obtain⟨PV,adF,q⟩:=aA q;refine rS<|cQ<|cS (kj (xs:=[]) (ys:=[.func 168]) (ZT adF) (eP.same O) O O O aJ.nil (aJ.cons (Arg.fn fun _ _ h=>BC (D:=DR.strict) h) aJ.nil) (cq O) O)<|cF [19] O<|rS<|cQ<|cG (iM (t:=19) O)<|cG (km (s:=170) O O)<|cA<|aj 4 O ?_
   cases q;exact al (r1 O)
def F9{a0 a1 a2 r}(q:xY a0 a1 a2=some r):cw 152 [(TP eC) a0,cp a1,aq a2] [(TL aY) r]:=
 dp func152 O ax<|rS<|cX<|cX<|cP (bf aY 100 4)<|aj 49 O<|ba q fun x1 h2 q=>rS<|jt 1 O uK O g<|jt 0 O nt O g<|cC (iZ h2) O<|cT bJ<|cs O O O g<|aj 177 O<|rS<|cP (bf Dl 325 12)<|aj 433 O<|ae<|rS<|cM<|cP (tS (aT O))<|cP (eT (aT O) O (aQ.agg (i:=2) O O) EX)<|cR O Hk<|cJ np O<|cN<|aj 469762480 O<|ah<|jE [4,5,7,26,27] O (σ:=(asv V3)×Int) (fun s3=>[(8,.buf 325 12 (lT Dl s3.1)),(28,.val (TiZ s3.2))]) q O (fun k4 s3 q=>by exact rS<|cL O O<|aj 1006633392 O<|ae<|gc O q (fun DH q=>ai<|ar<|ae<|uS [4,5,7,26,27,28] O (α:=(asv V3)) (fun s6=>[(8,.buf 325 12 (lT Dl s6))]) q (fun k7 q=>by exact ah<|ba q fun x8 h9 q=>rS<|cP (oX vx (eE O) O O h9)<|cR O gk<|cT iX<|cs O O O gk<|aj 469763504 O<|oK q fun eF j5 fJ lK gH mF q=>gE 15 mixed<|dP [10] O (ab O gk)<|dQ 0 O nt O g<|dP [32,34] O (oC (gZ j5) O)<|dQ 0 O kr O g<|dP [7] O (ab O g)<|dP [37,38] O (oC (eI lK) O)<|dQ 0 O kr O g<|dP [5] O (ab O g)<|dP [41,42] O (oC (eI mF) O)<|dP [35,39,43] O (bB abv afm O)<|dP [] O (gW Ff)<|dS [11,44] O (ds O O O KD)<|dN<|dE [4,5,7,8,11,26,27,28] O ax<|cD<|ba q fun ib Q q=>kO q fun jG qt q=>rS<|jt 1 O zR O d<|cC (jL Q) O<|cP (db (aT O) aI)<|cM<|gV O O (ov 11 O on) (fun rD=>aO O ET)<|gV O O (oo 50 O id (ov 11 O on)) (fun hg2=>oP 2 O O d)<|gV O O (oo 51 O id on) (fun M=>oC (jL (qt M)) O)<|gV O O (oo 52 O id on) (fun wa=>db (aT O) aI)<|cP (fH (aT O) O jN)<|aj 18014398979246512 O<|gc O q (fun Ht q=>ba q fun kL uX q=>by exact rK<|cQ<|cU O KD<|cP (bS Ff akg O O)<|cS (dF SI akv (eE O) O O (aT O) uX (cq O))<|cS (bE O O (cq O) _ (Or.inl O))<|aj 469762480 O (cm q O)) fun Ht q=>ai (cm q O)) (fun s6 q=>by exact ar<|ba q fun lD xc q=>by exact rK<|cH O xc<|cO (oM O)<|aj 469762480 O (cm q O))) fun DH q=>aN<|ar<|rS<|cP (bf aY 100 4)<|aj 4352 O<|ae<|rS<|cG (iM (t:=8) O)<|cM<|cJ SI O<|cN<|cF [8,12,60,61,62] O<|ah<|jE [8,60,61] O (σ:=asv Rat×Int) (fun re=>[(12,.buf 100 4 (lT aY re.1)),(62,.val (TiZ re.2))]) q O (fun OO re q=>by exact rS<|cL O O<|cF [8,12,60,61,62,63] O<|ae<|gc O q (fun Xc q=>ai<|ar<|ae<|ah<|ba q fun rA Hy q=>rS<|cM<|cP (oX Wd (eE O) O O Hy)<|cR O KD<|cT Ff<|cA<|cs O O O KD<|aj 8070450532247957760 O<|ae<|ba q fun sv DI q=>rS<|jt 1 O zR O d<|cC (jL DI) O<|cP (db (aT O) aI)<|aj 1188662071249659261184 O<|uS [8,13,14,60,61,62] O (α:=(asv Rat)) (fun Wm=>[(12,.buf 100 4 (lT aY Wm))]) q (fun k33 q=>by exact gc O q (fun adx q=>oK q fun uT Hx yS KQ uQ Hw q=>gD 10 mixed<|dP [12] O (fa)<|dQ 0 O EU O d<|dP [73] O (oC (GB Hx) O)<|dQ 1 O zR O d<|dP [74,76] O (oC (Ee KQ) O)<|dP [77] O (bS W Bp O O)<|dG [71] [71,78,12] O (qg nr Bq (eE O) O O (aT O) Hw (cq O))<|dG [] [79] O (uG O O (cq O) _ (Or.inl O))<|dN<|dE [8,12,13,14,60,61,62] O ax<|cD (cm q O)) fun adx q=>ai (cm q O)) (fun Wm q=>by exact ar<|ba q fun Bw Mg q=>rS<|cM<|cM<|cP (tl Wd (eE O) (aT O) Lo.none (Lo.some (aT O)) Mg)<|cJ SI O<|cN<|cF [8,12,14,60,61,62,82,83,84] O<|ah<|jE [8,14,60,61,62,82,83] O (σ:=asv Rat×Int) (fun L3=>[(12,.buf 100 4 (lT aY L3.1)),(84,.val (TiZ L3.2))]) q O (fun k44 L3 q=>by exact rS<|cL O O<|aj 72535557247328282730320128 O<|ae<|gc O q (fun adt q=>ai<|ar<|ae<|uS [8,14,60,61,62,82,83,84] O (α:=(asv Rat)) (fun s46=>[(12,.buf 100 4 (lT aY s46))]) q (fun k47 q=>by exact ah<|ba q fun B7 h49 q=>rS<|cP (oX Wd (eE O) O O h49)<|cR O KD<|cT Ff<|cs O O O KD<|aj 33849931019660149139788032 O<|oK q fun PI h51 PH h53 Tw h55 q=>gE 13 mixed<|dQ 1 O zR O d<|dQ 2 O ET O d<|dP [89,91] O (oC (kT h51) O)<|dQ 2 O ET O d<|dQ 1 O zR O d<|dP [94,96] O (oC (kT h53) O)<|dP [92,97] O (oC (wR h55) O)<|dP [] O (gW W)<|dS [17,98] O (ds O O O d)<|dN<|dE [8,12,14,16,17,60,61,62,82,83,84] O ax<|cD<|ae<|ba q fun Mk h57 q=>rS<|cU O d<|cC (jL h57) O<|cP (dv (aT O) aI)<|aj 2535335050387478463142546329856 O<|gc O q (fun apX q=>aN (cm q O)) fun apX q=>ai (ar (Ts q fun x59 h60 Tu h62 Ti h64 x65 h66 x67 h68 q=>gE 15 mixed<|dQ 0 O EU O d<|dQ 1 O zR O d<|dP [103,105] O (oC (kT h60) O)<|dQ 1 O zR O d<|dQ 0 O EU O d<|dP [108,110] O (oC (kT h62) O)<|dP [106,111] O (oC (wR h64) O)<|dP [17] O (ab O d)<|dP [112,113] O (oC (Ee h66) O)<|dP [114] O (oC (jL h68) O)<|dP [115] O (kg (aT O) aI)<|dN<|dE [8,12,14,16,17,60,61,62,82,83,84,116] O ax<|cD<|gc O q (fun apR q=>Ts q fun x70 h71 x72 h73 Zm h75 QC h77 x78 h79 q=>gD 17 mixed<|dP [12] O (fa)<|dQ 2 O ET O d<|dQ 0 O EU O d<|dP [119,121] O (oC (kT h71) O)<|dQ 0 O EU O d<|dQ 2 O ET O d<|dP [124,126] O (oC (kT h73) O)<|dP [122,127] O (oC (wR h75) O)<|dP [17] O (ab O d)<|dP [128,129] O (oC (Ee h77) O)<|dP [130] O (bS W Bp O O)<|dG [117] [117,131,12] O (qg nr Bq (eE O) O O (aT O) h79 (cq O))<|dG [] [132] O (uG O O (cq O) _ (Or.inl O))<|dN<|dE [8,12,14,60,61,62,82,83,84] O ax<|cD (cm q O)) fun apR q=>ai (cm q O)))) (fun s46 q=>by exact ar<|ba q fun x80 h81 q=>by exact rK<|cH O h81<|cO (oM O)<|cF [8,12,14,60,61,62,82,83,84] O (cm q O))) fun adt q=>aN (ar (ba q fun x82 h83 q=>by exact rK<|cH O h83<|cO (oM O)<|cF [8,12,60,61,62] O (cm q O)))))) fun Xc q=>aN<|ar<|rS<|cQ<|cG (iM (t:=12) O)<|cG (km (s:=135) O O)<|cA<|cF [6] O<|al (eS q O)))
end
end Trn
