/-
  Part of the proof of SolidNormals.
-/
import Derived.Test.YtflhfjdapojoiaaGreatDoorHc
set_option maxRecDepth 100000
set_option maxHeartbeats 20000000
set_option linter.all false
open Go Go.RowKit Go.Proofs Go.Proofs.Tryz
namespace Trn
section
variable[D:DR]
def GS{a0 a1 a2 r}(q:qb a0 a1 a2=some r):c8 5 [(TL aq) a0,TiZ a1,TiZ a2] [bj r]:=
 dR func5 O aH<|rS<|cB<|U 7 O<|ae<|rS<|cM<|cJ p6 O<|cM<|cP (b9 (aT O) (aT O))<|U 2053 O<|gc O q (fun hb1 q=>rS<|cB<|cF [6] O<|an (fz q O)) fun hb1 q=>ah<|ax<|ae<|rS<|cI<|U 133 O<|ai<|jT [0,2] O (σ:=Int) (fun s2=>[(7,.val (TiZ s2))]) q O (fun k3 s2 q=>by exact ae<|rS<|cM<|cM<|cJ p6 O<|cL O O<|U 32901 O<|gc O q (fun Iv q=>ah<|ax<|ae<|ai<|bn q fun x5 h6 q=>rS<|cM<|cM<|cP (oX G7 (dY O) O O h6)<|cP (gY (aT O) O (ba.agg (i:=1) O O) od)<|cR O gp<|cP (fk vm (aT O))<|cM<|cP (b9 (aT O) (aT O))<|U 33554565 O<|gc O q (fun Bc q=>rS<|cB<|cF [6] O<|an (fz q O)) fun Bc q=>ah (ax (bn q fun x8 h9 q=>by exact rK<|cM<|cH O h9<|cO (oA O)<|U 133 O (cm q O)))) fun Iv q=>aR<|ax<|rS<|cB<|cF [6] O<|an (fz q O))
def qY{a0 r}(q:jg a0=some r):c8 115 [TS a0] [TiZ r]:=
 dR func115 O aH<|rS<|cI<|U 1 O<|ae<|rS<|cM<|cP (A3 (aT O) (Arg.s O))<|U 17 O<|gc O q (fun hb1 q=>rS<|cI<|U 4 O<|an (fz q O)) fun hb1 q=>ah<|ax<|ae<|kT q fun x2 h3 q=>rS<|cM<|cP (fk vm (aT O))<|cP (b9 (aT O) aI)<|cM<|gV O O (ov 0 O on) (fun vK=>oM O)<|gV O O (oo 9 O id on) (fun hg2=>re vm (aT O) aI (h3 hg2))<|gV O O (oo 10 O id on) (fun Y=>cw (aT O) aI)<|cP (dD (aT O) O jZ)<|cF [12] O<|gc O q (fun Iv q=>rS<|cI<|U 4 O<|an (fz q O)) fun Iv q=>ah<|ax<|rS<|cI<|U 4 O<|an (fz q O)
def zV{a0 r}(q:qD a0=some r):c8 47 [TS a0] [TS r]:=
 dR func47 O aH<|rS<|cP (aC (Arg.s O))<|U 1 O<|ae<|bn q fun x1 h2 q=>rS<|cM<|cC (qY h2) O<|cP (dJ (aT O) aI)<|U 33 O<|gc O q (fun hb3 q=>bn q fun x4 h5 q=>rS<|cM<|cP (fQ vm (aT O) (Lo.some aI) Lo.none h5)<|cA<|U 4 O<|an (fz q O)) fun hb3 q=>ah<|ax<|ae<|bn q fun x6 h7 q=>rS<|cM<|cC (qY h7) O<|cP (cw (aT O) aI)<|U 1025 O<|gc O q (fun vE q=>rS<|cM<|cA<|U 4 O<|an (fz q O)) fun vE q=>ah (ax (bn q fun x9 lA q=>rS<|cM<|cP (sY (Arg.s O) (aT O) lA)<|cA<|U 4 O<|an (fz q O)))
def gU{a0 a1 a2 a3 r}(q:gh a0 a1 a2 a3=some r):c8 21 [TiZ a0,TiZ a1,TiZ a2,TS a3] [aq r]:=by
 unfold gh at q;exact dR func21 O aH<|rS<|cT qo<|U 271 O<|rS<|cM<|cM<|cM<|cP (bA Qr pH O O)<|cM<|cP (bB qo QJ O)<|cs O O O ji<|cF [8] O<|an (qV q O ji)
def oW{a0 a1 a2 a3 a4 a5 r}(q:nh a0 a1 a2 a3 a4 a5=some r):c8 16 [TS a0,TS a1,TS a2,TS a3,TS a4,TS a5] [(TL aq) r]:=
 dR func16 O aH<|rS<|cP (aC (Arg.nn (f:=aq)))<|U 63 O<|Qk q fun x1 h2 x3 h4 x5 h6 x7 h8 x9 lA gT M q=>wZ q fun j9 P jH S jN V q=>rS<|cM<|cC (zV h2) O<|cC (gU h4) O<|cM<|cC (zV h6) O<|cC (gU h8) O<|cM<|cC (zV lA) O<|cC (gU M) O<|cM<|cC (gU P) O<|cM<|cC (gU S) O<|cM<|cC (gU V) O<|cP (xj (s':= .val (TL aq ([x3,x7,gT,j9,jH,jN]:att ((Int×Int×Int)×ad3)))) (bS qo adP O O) O)<|cA<|cF [12] O<|an (fz q O)
def Dt{a0 r}(q:qI a0=some r):c8 119 [TiZ a0] [a7 r]:=by
 unfold qI at q;exact dR func119 O aH<|rS<|cT gH<|U 5 O<|rS<|cM<|cP (bB gH vR O)<|cs O O O g<|U 4 O<|an (qV q O g)
def F4{a0 r}(q:v8 a0=some r):c8 211 [TiZ a0] [(TI .u64) r]:=
 dR func211 O aH<|rS<|cI<|U 1 O<|ae<|rS<|cM<|cP (dJ (aT O) aI)<|U 17 O<|gc O q (fun hb1 q=>rS<|cM<|cP (abN (aT O))<|cP (xk Kd E8 (aT O))<|cA<|U 4 O<|an (fz q O)) fun hb1 q=>ah<|ax<|rS<|cM<|cP (xk Kd E8 (aT O))<|cA<|U 4 O<|an (fz q O)
def jf{a0 r}(q:gi a0=some r):c8 212 [a7 a0] [bj r.1,(TL (TI .u64)) r.2]:=
 dR func212 O aH<|rS<|cX<|cB<|cP (aC (Arg.nn (f:=(TI .u64))))<|U 2 O<|ae<|ai<|rS<|o0 1 O po O zA<|cP (aiI dK (aT O))<|cA<|U 18 O<|gc O q (fun hb1 q=>gE 7 mixed<|dQ 0 O gQ O B<|dP [9] O (dJ (aT O) aI)<|dQ 1 O po O zA<|dP [10] O (oA O)<|dP [12] O (oA O)<|dN<|dE [2,3] O aH<|cD<|by cases q;exact an (dZ (Jn (t:=3) O) (eM O O (bg.tmp O O (bg.tmp O O bg.nil))))) fun hb1 q=>rS<|o0 0 O gQ O B<|cP (cw (aT O) aI)<|cA<|U 8194 O<|gc O q (fun hb2 q=>rS<|cB<|cP (aC (Arg.nn (f:=(TI .u64))))<|U 12 O<|by cases q;exact an (dZ (Jn (t:=3) O) (eM O O (bg.tmp O O (bg.tmp O O bg.nil))))) fun hb2 q=>ah (ax (bn q fun x3 h4 q=>gE 9 mixed<|dQ 0 O gQ O B<|dP [18] O (dJ (aT O) aI)<|dQ 0 O gQ O B<|dP [21] O (oC (F4 h4) O)<|dP [22] O (xj (s':= .val (TL (TI .u64) ([x3]:att Int))) (bS yf adN O O) O)<|dP [19] O (oA O)<|dP [23] O (oA O)<|dN<|dE [2,3] O aH<|cD<|by cases q;exact an (r2 O)))
def tw{a0 a1 r}(q:nM a0 a1=some r):c8 213 [bj a0,(TL (TI .u64)) a1] [a7 r]:=
 dR func213 O aH<|rS<|cT gH<|U 19 O<|ae<|ai<|rS<|cM<|cJ dK O<|cP (cw (aT O) aI)<|cA<|U 51 O<|gc O q (fun hb1 q=>rS<|cP (bB gH vR O)<|cs O O O g<|cF [4] O<|an (qV q O g)) fun hb1 q=>kT q fun x2 h3 q=>rS<|cM<|cJ dK O<|cP (cw (aT O) aI)<|cM<|gV O O (ov 1 O on) (fun vK=>oM O)<|gV O O (oo 15 O id on) (fun hg2=>iQ fG (dY O) (aT O) aI (h3 hg2))<|gV O O (oo 16 O id on) (fun Y=>aK (aT O) dx)<|gV O O (oo 17 O id on) (fun zC=>Ge (aT O) aI)<|cP (dD (aT O) O jZ)<|cM<|gV O O (ov 0 O on) (fun CD=>oM O)<|cP (dD (aT O) O jZ)<|cA<|U 1043 O<|gc O q (fun Iv q=>kM q fun x5 h6 x7 h8 q=>rS<|cM<|cP (iQ fG (dY O) (aT O) aI h6)<|cR O dx<|cP (xk E8 Kd (aT O))<|cP (Q5 (aT O) h8)<|cP (bB gH vR O)<|cs O O O g<|cF [4] O<|an (qV q O g)) fun Iv q=>kT q fun x9 lA q=>rS<|cM<|cJ dK O<|cP (cw (aT O) aI)<|cM<|gV O O (ov 1 O on) (fun Dj=>oM O)<|gV O O (oo 34 O id on) (fun Nz=>iQ fG (dY O) (aT O) aI (lA Nz))<|gV O O (oo 35 O id on) (fun Un=>aK (aT O) dx)<|gV O O (oo 36 O id on) (fun Yg=>Ge (aT O) aI)<|cP (dD (aT O) O jZ)<|cA<|cF [0,1,4,29] O<|gc O q (fun JB q=>bn q fun iY Q q=>rS<|cM<|cP (iQ fG (dY O) (aT O) aI Q)<|cR O dx<|cP (xk E8 Kd (aT O))<|cP (bB gH vR O)<|cs O O O g<|cF [4] O<|an (qV q O g)) fun JB q=>rS<|cM<|cA<|cF [1,4,44] O<|gc O q (fun Jz q=>gcI q fun T q=>rS<|cM<|cP (M4 gH vR (jv.cons (i:=0) aI O O (jv.cons (i:=1) ((aT O).imp (ad7 (not_true T))) O O jv.nil)))<|cs O O O g<|cF [4] O<|an (qV q O g)) fun Jz q=>ah (ax (gcI q fun S q=>rS<|cM<|cP (M4 gH vR (jv.cons (i:=0) aI O O (jv.cons (i:=1) ((aT O).imp (ad7 (not_true S))) O O jv.nil)))<|cs O O O g<|cF [4] O<|an (qV q O g)))
def lF{a0 r}(q:jb a0=some r):c8 185 [a7 a0] [a7 r]:=
 dR func185 O aH<|rS<|cX<|cT gH<|U 6 O<|ae<|rS<|o0 1 O po O zA<|cP (uJ dK (aT O))<|cM<|gV O O (ov 1 O on) (fun vK=>bM O gQ)<|gV O O (oo 9 O id (ov 1 O on)) (fun hg2=>oP 0 O O B)<|gV O O (oo 10 O id on) (fun Y=>dH (aT O) aI)<|cP (dD (aT O) O jZ)<|U 4102 O<|gc O q (fun hb1 q=>bn q fun x2 h3 q=>rS<|o0 0 O gQ O B<|cP (Q5 (aT O) h3)<|cP (bB gH vR O)<|cs O O O g<|U 4 O<|an (qV q O g)) fun hb1 q=>ah (ax (bn q fun x4 h5 q=>rS<|cU O g<|cC (jf h5) O<|cZ<|cE<|cE<|cA<|cA<|U 28 O<|bn q fun x6 h7 q=>rS<|cM<|cP (fT (aT O))<|cM<|cC (tw h7) O<|cs O O O g<|U 4 O<|an (qV q O g)))
def AS{a0 r}(q:sM a0=some r):c8 121 [a7 a0] [a7 r]:=
 dR func121 O aH<|rS<|cX<|cT gH<|U 6 O<|ae<|rS<|o0 0 O gQ O B<|cP (dJ (aT O) aI)<|U 38 O<|gc O q (fun hb1 q=>bn q fun x2 h3 q=>rS<|cU O g<|cC (lF h3) O<|cs O O O g<|U 4 O<|an (qV q O g)) fun hb1 q=>ah<|ax<|rS<|cU O g<|cs O O O g<|U 4 O<|an (qV q O g)
def oi{a0 r}(q:jE a0=some r):c8 125 [a7 a0] [TiZ r]:=by
 unfold jE at q;exact dR func125 O aH<|rS<|cX<|cI<|U 2 O<|rS<|o0 0 O gQ O B<|cP (XD aI (aT O))<|cP (Ld aI (aT O))<|cA<|U 4 O<|an (fz q O)
def yQ{a0 a1 r}(q:l6 a0 a1=some r):c8 217 [(TL (TI .u64)) a0,(TL (TI .u64)) a1] [TiZ r]:=
 dR func217 O aH<|rS<|cI<|U 3 O<|ae<|rS<|cM<|cJ dK O<|cM<|cJ dK O<|cP (dH (aT O) (aT O))<|U 1027 O<|gc O q (fun hb1 q=>ae<|rS<|cM<|cJ dK O<|cM<|cJ dK O<|cL O O<|cF [15] O<|gc O q (fun hb2 q=>rS<|cI<|cF [4] O<|an (fz q O)) fun hb2 q=>ah<|ax<|rS<|cI<|cF [4] O<|an (fz q O)) fun hb1 q=>ah<|ax<|ae<|bn q fun x3 h4 q=>rS<|cM<|cJ dK O<|cP (bF (aT O) aI h4)<|cA<|U 35 O<|ai<|jT [0,1] O (σ:=Int) (fun s5=>[(5,.val (TiZ s5))]) q O (fun k6 s5 q=>by exact ae<|rS<|cM<|cP (nD (aT O) aI)<|U 1048611 O<|gc O q (fun Bc q=>ah<|ax<|ae<|ai<|kM q fun x8 h9 iI nA q=>gE 9 mixed<|dP [0] O (oM O)<|dP [5] O (oM O)<|dP [23,24] O (oX fG (dY O) O O h9)<|dP [25] O (aK (aT O) dx)<|dP [1] O (oM O)<|dP [5] O (oM O)<|dP [27,28] O (oX fG (dY O) O O nA)<|dP [29] O (aK (aT O) dx)<|dP [26,30] O (dH (aT O) (aT O))<|dN<|dE [0,1,5,31] O aH<|cD<|gc O q (fun JA q=>ae<|kM q fun j9 P jH S q=>gE 9 mixed<|dP [0] O (oM O)<|dP [5] O (oM O)<|dP [32,33] O (oX fG (dY O) O O P)<|dP [34] O (aK (aT O) dx)<|dP [1] O (oM O)<|dP [5] O (oM O)<|dP [36,37] O (oX fG (dY O) O O S)<|dP [38] O (aK (aT O) dx)<|dP [35,39] O (dJ (aT O) (aT O))<|dN<|dE [40] O aH<|cD<|gc O q (fun Gn q=>rS<|cI<|cF [4] O<|an (fz q O)) fun Gn q=>ah<|ax<|rS<|cI<|cF [4] O<|an (fz q O)) fun JA q=>ah (ax (bn q fun kZ uo q=>by exact rK<|cM<|cP (bF (aT O) aI uo)<|cO (oA O)<|U 35 O (cm q O)))) fun Bc q=>aR<|ax<|rS<|cI<|cF [4] O<|an (fz q O))
def zX{a0 a1 a2 r}(q:ng a0 a1 a2=some r):c8 282 [(TI .u64) a0,(TI .u64) a1,(TI .u64) a2] [(TI .u64) r.1,(TI .u64) r.2]:=by
 refine dR func282 O aH<|rS<|cI<|cI<|U 7 O<|ae<|rS<|cM<|cP (cw (aT O) aI)<|U 1048583 O<|gc O q (fun hb1 q=>?_) fun hb1 q=>?_
 ·cases q
 ·refine ah<|ax<|ae<|rS<|cM<|cM<|cP (Ge (aT O) (aT O))<|U 16777223 O<|gc O q (fun hb2 q=>?_) fun hb2 q=>?_
  ·cases q
  ·refine ah<|ax<|ae<|rS<|cM<|cP (cw (aT O) aI)<|cF [0,1,2,27] O<|gc O q (fun hb3 q=>?_) fun hb3 q=>?_
   ·obtain⟨x4,h5,x6,h7,q⟩:=b2 q;refine gE 8 mixed<|dP [1] O (oM O)<|dP [2] O (oM O)<|dP [28,29] O (Q4 (aT O) (aT O) h5)<|dP [1] O (oM O)<|dP [2] O (oM O)<|dP [31,32] O (n5 (aT O) (aT O) h7)<|dP [30] O (oA O)<|dP [33] O (oA O)<|dN<|dE [6,7] O aH<|cD ?_
    cases q;exact an (r2 O)
   ·refine ah (ax ?_);obtain⟨x8,h9,q⟩:=aN q;refine rS<|cM<|cC (abo h9) O<|cP (xk Kd agb (aT O))<|cA<|U 263 O ?_
    obtain⟨iI,nA,q⟩:=aN q;refine rS<|cM<|cM<|cP (M1 (aT O) (aT O) nA)<|cO (oA O)<|U 263 O ?_
    obtain⟨iY,Q,q⟩:=aN q;refine rS<|cM<|cP (Gd (aT O) aI Q)<|cA<|U 775 O<|rS<|cM<|cP (Rc (aT O) aI)<|cA<|U 1799 O ?_
    obtain⟨jR,T,jG,W,q⟩:=b2 q;refine rS<|cM<|cM<|cP (M1 (aT O) (aT O) T)<|cM<|cM<|cP (AY aI (aT O))<|cP (Gd (aT O) (aT O) W)<|cP (VQ (aT O) (aT O))<|cA<|U 3846 O ?_
    obtain⟨kZ,uo,q⟩:=aN q;refine rS<|cM<|cM<|cP (M1 (aT O) (aT O) uo)<|cA<|U 7940 O ?_
    obtain⟨mC,h21,q⟩:=aN q;refine rS<|cM<|cP (Gd (aT O) aI h21)<|cA<|U 16132 O<|rS<|cM<|cP (Rc (aT O) aI)<|cA<|U 28420 O ?_
    obtain⟨uk,Db,q⟩:=aN q;refine rS<|cM<|cM<|cP (Q4 (aT O) (aT O) Db)<|cA<|U 61188 O<|rS<|cM<|cM<|cM<|cP (xE (aT O) (aT O))<|cP (AY (aT O) (aT O))<|cA<|U 126724 O<|ae<|xu [2,8,9,10,11,13,14] O (α:=Int) (fun s24=>[(15,.val (TI .u64 s24))]) q (fun k25 q=>?_) (fun s24 q=>?_)
    ·refine ai<|jT [2,8,9,10,11,13,14] O (σ:=Int×Int) (fun s26=>[(15,.val (TI .u64 s26.1)),(16,.val (TI .u64 s26.2))]) q O (fun k27 s26 q=>?_)
     refine ae<|rS<|cM<|cP (nD (aT O) aI)<|cM<|gV O O (ov 15 O on) (fun vK=>oM O)<|gV O O (ov 10 O on) (fun hg2=>oM O)<|gV O O (oo 70 O id (oo 71 O id on)) (fun Y=>xE (aT O) (aT O))<|gV O O (ov 16 O on) (fun zC=>oM O)<|gV O O (oo 73 O id on) (fun CD=>xE aI (aT O))<|gV O O (ov 13 O on) (fun Dj=>oM O)<|gV O O (oo 74 O id (oo 75 O id on)) (fun Nz=>vV (aT O) (aT O))<|gV O O (oo 72 O id (oo 76 O id on)) (fun Un=>b9 (aT O) (aT O))<|cP (gj (aT O) O j8)<|U 302231454903657293803268 O ?_
     refine gc O q (fun ajG q=>?_) fun ajG q=>?_
     ·refine ah<|ax<|ai<|rS<|cM<|cP (AY (aT O) aI)<|cO (oA O)<|U 126724 O<|rS<|cM<|cM<|cP (vV (aT O) (aT O))<|cO (oA O)<|U 126724 O<|rS<|cM<|cP (nD (aT O) aI)<|U 38685626227668133590724356 O<|gc O q (fun acM q=>?_) fun acM q=>?_
      ·exact aR (cm q O)
      ·exact ah (cm q O)
     ·exact aR (cm q O)
    ·refine ax ?_;refine rS<|cM<|cP (xE (aT O) aI)<|cM<|cP (vV (aT O) (aT O))<|cM<|cM<|cP (xE (aT O) (aT O))<|cP (AY (aT O) (aT O))<|cA<|U 182020 O ?_
     obtain⟨yg,Iw,q⟩:=aN q;refine rS<|cM<|cM<|cP (Q4 (aT O) (aT O) Iw)<|cA<|U 444164 O<|rS<|cM<|cM<|cM<|cP (xE (aT O) (aT O))<|cP (AY (aT O) (aT O))<|cA<|U 509700 O<|ae<|xu [2,8,14,15,17] O (α:=Int) (fun s32=>[(18,.val (TI .u64 s32))]) q (fun k33 q=>?_) (fun s32 q=>?_)
     ·refine ai<|jT [2,8,9,10,14,15,17] O (σ:=Int×Int) (fun B8=>[(16,.val (TI .u64 B8.1)),(18,.val (TI .u64 B8.2))]) q O (fun ZW B8 q=>?_)
      refine ae<|rS<|cM<|cP (nD (aT O) aI)<|cM<|gV O O (ov 18 O on) (fun Yg=>oM O)<|gV O O (ov 10 O on) (fun NC=>oM O)<|gV O O (oo 105 O id (oo 106 O id on)) (fun NB=>xE (aT O) (aT O))<|gV O O (ov 16 O on) (fun Ju=>oM O)<|gV O O (oo 108 O id on) (fun OY=>xE aI (aT O))<|gV O O (ov 14 O on) (fun OX=>oM O)<|gV O O (oo 109 O id (oo 110 O id on)) (fun NA=>vV (aT O) (aT O))<|gV O O (oo 107 O id (oo 111 O id on)) (fun OW=>b9 (aT O) (aT O))<|cP (gj (aT O) O j8)<|cF [2,8,9,10,14,15,16,17,18,113] O ?_
      refine gc O q (fun Wp q=>?_) fun Wp q=>?_
      ·refine ah<|ax<|ai<|rS<|cM<|cP (AY (aT O) aI)<|cO (oA O)<|U 509700 O<|rS<|cM<|cM<|cP (vV (aT O) (aT O))<|cO (oA O)<|U 509700 O<|rS<|cM<|cP (nD (aT O) aI)<|cF [2,8,9,10,14,15,16,17,18,120] O<|gc O q (fun aqq q=>?_) fun aqq q=>?_
       ·exact aR (cm q O)
       ·exact ah (cm q O)
      ·exact aR (cm q O)
     ·refine ax ?_;obtain⟨KW,Wu,q⟩:=aN q;refine rS<|cM<|cP (xE (aT O) aI)<|cM<|cP (vV (aT O) (aT O))<|cM<|cP (xE (aT O) aI)<|cM<|cP (vV (aT O) (aT O))<|cM<|cM<|cP (xE (aT O) (aT O))<|cP (AY (aT O) (aT O))<|cM<|cP (Gd (aT O) (aT O) Wu)<|cA<|cA<|U 192 O ?_
      cases q;exact an (r2 O)
def qq{a0 r}(q:l5 a0=some r):c8 259 [(TL (TI .u64)) a0] [(TL (TI .u64)) r]:=
 dR func259 O aH<|rS<|cP (aC (Arg.nn (f:=(TI .u64))))<|U 1 O<|rS<|cM<|cJ dK O<|cA<|U 9 O<|ae<|ai<|jT [0] O (σ:=Int) (fun s1=>[(3,.val (TiZ s1))]) q O (fun k2 s1 q=>by exact ae<|kT q fun x3 h4 q=>kT q fun x5 h6 q=>rS<|cM<|cP (b9 (aT O) aI)<|cM<|gV O O (ov 0 O on) (fun vK=>oM O)<|gV O O (ov 3 O on) (fun hg2=>oM O)<|gV O O (oo 10 O id on) (fun Y=>bF (aT O) aI (h4 Y))<|gV O O (oo 9 O id (oo 11 O id on)) (fun zC=>iQ fG (dY O) (aT O) (aT O) (h6 zC))<|gV O O (oo 12 O id on) (fun CD=>aK (aT O) dx)<|gV O O (oo 13 O id on) (fun Dj=>cw (aT O) aI)<|cP (dD (aT O) O jZ)<|U 32777 O<|gc O q (fun Bc q=>ah<|ax<|ai<|bn q fun x8 h9 q=>by exact rK<|cM<|cP (bF (aT O) aI h9)<|cO (oA O)<|U 9 O (cm q O)) fun Bc q=>aR (ax (bn q fun iI nA q=>rS<|cM<|cM<|cP (tP fG (dY O) (aT O) Lo.none (Lo.some (aT O)) nA)<|cA<|U 4 O<|an (fz q O))))
def FG{a0 a1 r}(q:sI a0 a1=some r):fN prog 284 [(TL (TI .u64)) a0,TiZ a1] (.fr 255 1 (lT (TI .u64) r)):=by
 refine dR func284 O aH<| ?_
 refine rS<|cP (bL (TI .u64) 255 1)<|U 3 O ?_
 obtain⟨x1,h2,x3,h4,q⟩:=b2 q;refine rS<|cM<|cJ dK O<|cH O h2<|cP (Hu (TI .u64) ZQ yf O (aT O) (aT O) h4)<|cS (bX O O (gk O) _ (Or.inl O))<|U 35 O ?_
 refine ae<|rS<|cM<|cJ dK O<|cN<|U 28706 O ?_
 refine ai<|jT [1,12,13] O (σ:=att Int×Int) (fun s5=>[(5,.buf 255 1 (lT (TI .u64) s5.1)),(14,.val (TiZ s5.2))]) q O (fun k6 s5 q=>?_)
 refine rS<|cL O O<|U 61474 O ?_
 refine ae<|gc O q (fun Bc q=>?_) fun Bc q=>?_
 ·refine ah<|ax<|ae<|xu [1,12,13,14] O (α:=(att Int)) (fun s8=>[(5,.buf 255 1 (lT (TI .u64) s8))]) q (fun k9 q=>?_) (fun s8 q=>?_)
  ·refine ai ?_;obtain⟨iI,nA,q⟩:=aN q;refine rS<|cM<|cP (oX fG (dY O) O O nA)<|cR O dx<|cA<|cA<|U 28898 O ?_
   obtain⟨iY,Q,jR,T,jG,W,kZ,uo,mC,h21,q⟩:=b5 q;refine gE 10 mixed<|dP [5] O (eX)<|dP [6] O (oM O)<|dP [19,20,5] O (di fG O O (aT O) Q)<|dP [21,5] O (lY (f:=(TI .u64)) (fun _=>O) O O (bz T) dx)<|dP [7] O (oM O)<|dP [1] O (oM O)<|dP [23,24] O (M1 (aT O) (aT O) W)<|dP [22,25] O (VQ (aT O) (aT O))<|dP [19,20,5] O (di fG O O (aT O) uo)<|dS [26,27,5] O (QM (f:=(TI .u64)) (fun _=>O) O O (bz h21) (aT O) dx)<|dN<|dE [1,5,6,7,12,13,14] O aH<|cD ?_
   refine rS<|cM<|cP (b9 (aT O) aI)<|U 536899810 O ?_
   refine gc O q (fun RQ q=>?_) fun RQ q=>?_
   ·obtain⟨oe,zO,qW,CF,rJ,Fv,CU,KR,CT,JC,q⟩:=b5 q;exact rK<|cQ<|cM<|cH O zO<|cM<|cM<|cP (bF aI (aT O) CF)<|cP (Gd (aT O) (aT O) Fv)<|cP (di fG O O (aT O) KR)<|cS (rM (f:=(TI .u64)) (fun _=>O) O O (bz JC) (aT O) dx)<|U 28706 O (cm q O)
   ·exact ah (cm q O)
  ·refine ax ?_;obtain⟨EA,NG,q⟩:=aN q;exact rK<|cH O NG<|cO (oM O)<|U 28706 O (cm q O)
 ·refine aR<|ax<|rS<|cQ<|cS (SV O O O (gk O) _ (Or.inl O))<|cF [4] O ?_
  cases q;exact an (NY O O O O)
def Vq{ps qs:att arH}{a0:att Int}{a1:att Int}{r:att Int×Int}(q:Cn a0 a1=some r):kN prog 285 [] (.pR 255 ps qs (lT (TI .u64) a0)) (.pR 255 ps qs (lT (TI .u64) r.1)) [(TL (TI .u64)) a1] [(TI .u64) r.2]:=
 Gh (N:=186) func285 O ntmps285 (by simp) akb O O fun w1 v w0 H0 hk=>by exact vo (sS [0,1,186] O)<|rS<|cI<|cF [0,1,186] O<|rS<|cM<|cJ dK O<|cA<|cF [0,1,5,186] O<|rS<|cI<|cI<|cF [0,1,5,186] O<|rS<|cI<|cF [0,1,5,8,186] O<|ae<|Ql q fun x1 h2 x3 h4 x5 h6 x7 h8 q=>gE 10 mixed<|dP [0] O (eX)<|dP [5] O (oM O)<|dP [21,22,0] O (vU fG (gP.same O) O (aT O) h2)<|dP [23,0] O (Cc (f:=(TI .u64)) (fun _=>O) O O (bz h4) dx)<|dP [1] O (oM O)<|dP [5] O (oM O)<|dP [26] O (bF (aT O) aI h6)<|dP [25,27] O (oX fG (dY O) O O h8)<|dP [28] O (aK (aT O) dx)<|dP [24,29] O (nD (aT O) (aT O))<|dN<|dE [0,1,5,8,30,186] O aH<|cD<|xu [0,1,5,186] O (α:=Int×Int×Int) (fun s9=>[(6,.val (TI .u64 s9.1)),(7,.val (TI .u64 s9.2.1)),(8,.val (TI .u64 s9.2.2))]) q (fun Np q=>by exact gc O q (fun JB q=>rS<|cI<|cF [0,1,5,6,186] O<|Qk q fun iY Q jR T jG W kZ uo mC h21 uk Db q=>gD 16 mixed<|dP [0] O (eX)<|dP [5] O (oM O)<|dP [33] O (bF (aT O) aI Q)<|dP [32,34,0] O (vU fG (gP.same O) O (aT O) T)<|dP [35,0] O (Cc (f:=(TI .u64)) (fun _=>O) O O (bz W) dx)<|dP [1] O (oM O)<|dP [5] O (oM O)<|dP [38] O (bF (aT O) aI uo)<|dP [37,39] O (oX fG (dY O) O O h21)<|dP [40] O (aK (aT O) dx)<|dP [36,41] O (AZ (B7 Db) (aU.cons (aT O) (aU.cons (aT O) (aU.cons aI aU.nil))))<|dP [42] O (uI O)<|dP [31] O (fO O O)<|dP [31] O (fO O O)<|dP [43] O (oA O)<|dP [44] O (oA O)<|dN<|dE [0,1,5,6,7,8,186] O aH<|cD (cm q O)) fun JB q=>Qk q fun wy JE Bj JD yE Gq yg Iw wx O1 F0 P6 q=>kM q fun BV Wv KW Wu q=>gD 20 mixed<|dP [0] O (eX)<|dP [5] O (oM O)<|dP [46,47,0] O (vU fG (gP.same O) O (aT O) JE)<|dP [48,0] O (Cc (f:=(TI .u64)) (fun _=>O) O O (bz JD) dx)<|dP [0] O (eX)<|dP [5] O (oM O)<|dP [51] O (bF (aT O) aI Gq)<|dP [50,52,0] O (vU fG (gP.same O) O (aT O) Iw)<|dP [53,0] O (Cc (f:=(TI .u64)) (fun _=>O) O O (bz O1) dx)<|dP [1] O (oM O)<|dP [5] O (oM O)<|dP [56] O (bF (aT O) aI P6)<|dP [55,57] O (oX fG (dY O) O O Wv)<|dP [58] O (aK (aT O) dx)<|dP [49,54,59] O (oC (zX Wu) O)<|dP [60] O (uI O)<|dP [45] O (fO O O)<|dP [45] O (fO O O)<|dP [61] O (oA O)<|dP [62] O (oA O)<|dN<|dE [0,1,5,6,7,8,186] O aH<|cD (cm q O)) (fun s9 q=>by exact ax<|ae<|xu [0,1,5,186] O (α:=Int) (fun ED=>[(6,.val (TI .u64 ED))]) q (fun k41 q=>by exact ai<|jT [0,1,5,186] O (σ:=Int×Int×Int) (fun QW=>[(6,.val (TI .u64 QW.1)),(7,.val (TI .u64 QW.2.1)),(8,.val (TI .u64 QW.2.2))]) q O (fun k43 QW q=>by exact ae<|rS<|cM<|cP (cw (aT O) aI)<|cF [0,1,5,6,7,64,186] O<|gc O q (fun aqo q=>ah<|ax<|ai<|wZ q fun Se h46 U9 Yj Oo h50 q=>rS<|cM<|cM<|cM<|cP (bF (aT O) aI h46)<|cP (oX fG (dY O) O O Yj)<|cR O dx<|cC (KZ h50) O<|cZ<|cE<|cE<|cA<|cA<|cF [0,1,5,6,7,9,10,186] O<|ae<|kT q fun Pg h52 q=>kT q fun IP Wt q=>kT q fun Pe h56 q=>rS<|cM<|cM<|cL O O<|cM<|gV O O (ov 9 O on) (fun vK=>oM O)<|gV O O (ov 7 O on) (fun hg2=>oM O)<|gV O O (oo 79 O id (oo 80 O id on)) (fun Y=>cw (aT O) (aT O))<|gV O O (oo 81 O id on) (fun zC=>oM O)<|gO O O (ov 10 O on) (fun CD=>oM O)<|gO O O (ov 0 O on) (fun Dj=>eX)<|gO O O (ov 5 O on) (fun Nz=>oM O)<|gO O O (oo 85 O id on) (fun Un=>bF (aT O) aI (h52 Un))<|gO O O (oo 84 O id (oo 86 O id (ov 0 O on))) (fun Yg=>vU fG (gP.same O) O (aT O) (Wt Yg))<|gO O O (oo 87 O id (ov 0 O on)) (fun NC=>Cc (f:=(TI .u64)) (fun _=>O) O O (bz (h56 NC)) dx)<|gO O O (oo 83 O id (oo 88 O id on)) (fun NB=>Ge (aT O) (aT O))<|gV O O (oo 82 O id (ov 89 O on)) (fun Ju=>dD (aT O) O (fun h=>FY (id Ju) (jZ h)))<|cP (gj (aT O) O j8)<|cF [0,1,5,6,7,91,186] O<|gc O q (fun ajA q=>aR (cm q O)) fun ajA q=>ah<|ax<|rS<|cM<|cP (AY (aT O) aI)<|cO (oA O)<|cF [0,1,5,6,7,186] O<|wZ q fun Pd h59 Xf h61 On KO q=>by exact rK<|cM<|cM<|cM<|cP (bF (aT O) aI h59)<|cP (oX fG (dY O) O O h61)<|cR O dx<|cP (AZ (B7 KO) (aU.cons (aT O) (aU.cons (aT O) (aU.cons aI aU.nil))))<|cZ<|cE<|cE<|cO (oA O)<|cA<|cF [0,1,5,6,7,8,186] O (cm q O)) fun aqo q=>aR (cm q O))) (fun ED q=>by exact ax<|rS<|cI<|cI<|cF [0,1,5,6,11,12,186] O<|ae<|rS<|cM<|cN<|cF [0,1,5,6,11,12,104,105,186] O<|ai<|jT [1,5,6,104,186] O (σ:=att Int×Int×Int×Int) (fun Hj=>[(0,.pR 255 ps qs (lT (TI .u64) Hj.1)),(11,.val (TI .u64 Hj.2.1)),(12,.val (TI .u64 Hj.2.2.1)),(105,.val (TiZ Hj.2.2.2))]) q O (fun k65 Hj q=>by exact rS<|cL O O<|cF [0,1,5,6,11,12,104,105,106,186] O<|ae<|gc O q (fun aqi q=>ah<|ax<|ae<|ai<|rS<|cM<|cA<|cF [0,1,5,6,11,12,13,104,105,186] O<|kM q fun x67 h68 YR h70 q=>rS<|cM<|cM<|cM<|cP (oX fG (dY O) O O h68)<|cR O dx<|cC (KZ h70) O<|cZ<|cE<|cE<|cA<|cA<|cF [0,1,5,6,11,12,13,14,15,104,105,186] O<|rS<|cI<|cF [0,1,5,6,11,12,13,14,15,104,105,186] O<|bn q fun YQ h72 q=>rS<|cM<|cM<|cP (AZ (B7 h72) (aU.cons (aT O) (aU.cons (aT O) (aU.cons aI aU.nil))))<|cZ<|cE<|cE<|cO (oA O)<|cA<|cF [0,1,5,6,11,13,14,15,16,104,105,186] O<|rS<|cM<|cM<|cP (vV (aT O) (aT O))<|cA<|cF [0,1,5,6,11,12,13,15,104,105,186] O<|UX q fun Om h74 x75 h76 Vl h78 YO h80 Qu h82 q=>by exact rK<|cQ<|cM<|cQ<|cM<|cP (vU fG (gP.same O) O (aT O) h74)<|cP (Cc (f:=(TI .u64)) (fun _=>O) O O (bz h76) dx)<|cM<|cM<|cP (AZ (QV h78) (aU.cons (aT O) (aU.cons (aT O) (aU.cons (aT O) aU.nil))))<|cZ<|cE<|cE<|cP (vU fG (gP.same O) O (aT O) h80)<|cS (Vw (f:=(TI .u64)) (fun _=>O) O O (bz h82) (aT O) dx)<|cO (oA O)<|cF [0,1,5,6,11,12,104,105,186] O (ax (bn q fun Xe h84 q=>by exact rK<|cH O h84<|cO (oM O)<|cF [0,1,5,6,11,12,104,105,186] O (cm q O)))) fun aqi q=>aR (ax (UX q fun x85 h86 x87 h88 Sq h90 x91 h92 x93 h94 q=>rS<|cQ<|cM<|cQ<|cM<|cP (vU fG (gP.same O) O (aT O) h86)<|cP (Cc (f:=(TI .u64)) (fun _=>O) O O (bz h88) dx)<|cM<|cM<|cP (AZ (QV h90) (aU.cons (aT O) (aU.cons (aT O) (aU.cons (aT O) aU.nil))))<|cZ<|cE<|cE<|cP (vU fG (gP.same O) O (aT O) h92)<|cS (Vw (f:=(TI .u64)) (fun _=>O) O O (bz h94) (aT O) dx)<|cO (oA O)<|cF [0,1,5,6,11,186] O<|ae<|rS<|cM<|cP (cw (aT O) aI)<|cF [0,1,5,6,154,186] O<|gc O q (fun aqc q=>rS<|cM<|cA<|cF [0,4,186] O<|by cases q;exact an (adK hk O (bg.tmp O O bg.nil) O O O O)) fun aqc q=>ah<|ax<|rS<|cI<|cF [0,1,5,6,17,186] O<|ae<|rS<|cM<|cN<|cF [0,1,5,6,17,156,157,186] O<|ai<|jT [1,5,6,156,186] O (σ:=att Int×Int×Int) (fun KC=>[(0,.pR 255 ps qs (lT (TI .u64) KC.1)),(17,.val (TI .u64 KC.2.1)),(157,.val (TiZ KC.2.2))]) q O (fun k97 KC q=>by exact rS<|cL O O<|cF [0,1,5,6,17,156,157,158,186] O<|ae<|gc O q (fun aqb q=>ah<|ax<|ae<|ai<|rS<|cM<|cA<|cF [0,1,5,6,17,18,156,157,186] O<|Qk q fun x99 ac0 aa1 ajP aa0 ajO Qv acZ Vo acY C9 acX q=>gD 18 mixed<|dP [0] O (eX)<|dP [18] O (oM O)<|dP [0] O (eX)<|dP [18] O (oM O)<|dP [163,164,0] O (vU fG (gP.same O) O (aT O) ac0)<|dP [165,0] O (Cc (f:=(TI .u64)) (fun _=>O) O O (bz ajP) dx)<|dP [1] O (oM O)<|dP [18] O (oM O)<|dP [167,168] O (oX fG (dY O) O O ajO)<|dP [169] O (aK (aT O) dx)<|dP [17] O (oM O)<|dP [166,170,171] O (AZ (B7 acZ) (aU.cons (aT O) (aU.cons (aT O) (aU.cons (aT O) aU.nil))))<|dP [172] O (uI O)<|dP [160] O (fO O O)<|dP [160] O (fO O O)<|dP [161,162,0] O (vU fG (gP.same O) O (aT O) acY)<|dS [173,175,0] O (ae3 (f:=(TI .u64)) (fun _=>O) O O (bz acX) (aT O) dx)<|dP [174] O (oA O)<|dN<|dE [0,1,5,6,17,156,157,186] O aH<|cD (ax (bn q fun Ko acW q=>by exact rK<|cH O acW<|cO (oM O)<|cF [0,1,5,6,17,156,157,186] O (cm q O)))) fun aqb q=>aR (ax (Ql q fun IW acV Kn acU L7 acT L6 ajN q=>rS<|cQ<|cM<|cP (vU fG (gP.same O) O (aT O) acV)<|cP (Cc (f:=(TI .u64)) (fun _=>O) O O (bz acU) dx)<|cM<|cP (vV (aT O) (aT O))<|cP (vU fG (gP.same O) O (aT O) acT)<|cS (Vw (f:=(TI .u64)) (fun _=>O) O O (bz ajN) (aT O) dx)<|cF [0,6,186] O<|rS<|cM<|cP (AY (aT O) aI)<|cA<|cF [0,4,186] O<|by cases q;exact an (adK hk O (bg.tmp O O bg.nil) O O O O)))))))))
def G0{a0 a1 r}(q:uW a0 a1=some r):c8 240 [(TL (TI .u64)) a0,(TL (TI .u64)) a1] [(TL (TI .u64)) r.1,(TL (TI .u64)) r.2]:=by
 refine dR func240 O aH<| ?_
 refine rS<|cP (aC (Arg.nn (f:=(TI .u64))))<|cP (aC (Arg.nn (f:=(TI .u64))))<|U 3 O ?_
 refine ae ?_;obtain⟨x1,h2,q⟩:=aN q;refine rS<|cM<|cM<|cC (yQ h2) O<|cP (dJ (aT O) aI)<|U 524291 O ?_
 refine gc O q (fun hb3 q=>?_) fun hb3 q=>?_
 ·refine rS<|cM<|cP (aC (Arg.nn (f:=(TI .u64))))<|cA<|U 48 O ?_
  cases q;exact an (dZ (Jn (t:=4) O) (eM O O (bg.tmp O O (bg.tmp O O bg.nil))))
 ·refine ah<|ax<|ae<|rS<|cM<|cJ dK O<|cP (cw (aT O) aI)<|cF [0,1,23] O ?_
  refine gc O q (fun Iv q=>?_) fun Iv q=>?_
  ·obtain⟨x5,h6,q⟩:=aN q;refine rS<|cM<|cJ dK O<|cP (Hu (TI .u64) ZQ yf O (aT O) (aT O) h6)<|cS (bX O O (gk O) _ (Or.inl O))<|U 67 O ?_
   refine rS<|cI<|U 195 O ?_
   refine ae ?_;obtain⟨x7,h8,q⟩:=aN q;refine rS<|cM<|cJ dK O<|cP (bF (aT O) aI h8)<|cA<|U 451 O ?_
   refine ai<|jT [0,1] O (σ:=att Int×Int×Int) (fun s9=>[(6,.buf 255 1 (lT (TI .u64) s9.1)),(7,.val (TI .u64 s9.2.1)),(8,.val (TiZ s9.2.2))]) q O (fun Np s9 q=>?_)
   refine ae<|rS<|cM<|cP (nD (aT O) aI)<|U 2147484099 O ?_
   refine gc O q (fun JB q=>?_) fun JB q=>?_
   ·refine ah<|ax<|ae<|ai ?_
    obtain⟨iY,Q,jR,T,jG,W,kZ,uo,mC,h21,q⟩:=b5 q;refine gD 17 mixed<|dP [6] O (eX)<|dP [8] O (oM O)<|dP [7] O (oM O)<|dP [0] O (oM O)<|dP [8] O (oM O)<|dP [38,39] O (oX fG (dY O) O O Q)<|dP [40] O (aK (aT O) dx)<|dP [1] O (oM O)<|dP [42] O (iQ fG (dY O) (aT O) aI T)<|dP [43] O (aK (aT O) dx)<|dP [37,41,44] O (oC (zX W) O)<|dP [45] O (uI O)<|dP [34] O (fO O O)<|dP [34] O (fO O O)<|dP [35,36,6] O (di fG O O (aT O) uo)<|dS [46,48,6] O (QM (f:=(TI .u64)) (fun _=>O) O O (bz h21) (aT O) dx)<|dP [47] O (oA O)<|dN<|dE [0,1,6,7,8] O aH<|cD (ax ?_)
    obtain⟨uk,Db,q⟩:=aN q;exact rK<|cM<|cP (bF (aT O) aI Db)<|cO (oA O)<|U 451 O (cm q O)
   ·refine aR (ax ?_);obtain⟨wy,JE,Bj,JD,q⟩:=b2 q;refine rS<|cQ<|cG (jW (t:=6) O)<|cG (kS (s:=49) O O)<|cC (qq JE) O<|cM<|cP (bS yf adN O O)<|cC (qq JD) O<|cA<|cA<|U 48 O ?_
    cases q;exact an (r2 O)
  ·refine ah (ax ?_);obtain⟨yE,Gq,yg,Iw,wx,O1,q⟩:=b3 q;refine rS<|cM<|cM<|cJ dK O<|cP (bF (aT O) aI Gq)<|cP (oX fG (dY O) O O Iw)<|cR O dx<|cC (abo O1) O<|cA<|U 515 O ?_
   obtain⟨F0,P6,BV,Wv,q⟩:=b2 q;refine rS<|cM<|cM<|cC (FG P6) O<|cG (jW (t:=63) O)<|cC (qq Wv) O<|cA<|U 1537 O ?_
   obtain⟨KW,Wu,q⟩:=aN q;refine rS<|cM<|cM<|cC (FG Wu) O<|cS (bX O O (gk O) _ (Or.inl O))<|U 3585 O ?_
   refine rS<|cM<|cJ dK O<|cA<|U 7681 O ?_
   obtain⟨Va,h41,Vm,h43,x44,OZ,q⟩:=b3 q;refine rS<|cM<|cJ dK O<|cM<|cP (bF (aT O) (aT O) h41)<|cH O h43<|cP (Hu (TI .u64) ZQ yf O (aT O) (aT O) OZ)<|cS (bX O O (gk O) _ (Or.inl O))<|U 15873 O ?_
   refine ae ?_;obtain⟨L5,Sp,q⟩:=aN q;refine rS<|cM<|cJ dK O<|cM<|cP (bF (aT O) (aT O) Sp)<|cA<|U 32256 O ?_
   refine ai<|jT [9,10,12] O (σ:=att Int×att Int×Int) (fun FM=>[(11,.buf 255 1 (lT (TI .u64) FM.1)),(13,.buf 255 1 (lT (TI .u64) FM.2.1)),(14,.val (TiZ FM.2.2))]) q O (fun k49 FM q=>?_)
   refine ae<|rS<|cM<|cP (nD (aT O) aI)<|cF [9,10,11,12,13,14,81] O ?_
   refine gc O q (fun ajB q=>?_) fun ajB q=>?_
   ·refine ah<|ax<|ae<|ai ?_
    obtain⟨Pg,h52,IP,Wt,q⟩:=b2 q;obtain⟨h55,q⟩:=Fa q;obtain⟨Sd,h57,q⟩:=aN q;obtain⟨h58,q⟩:=Fa q;obtain⟨x59,h60,x61,h62,q⟩:=b2 q;refine rK<|cQ<|cM<|cQ<|cM<|cM<|cM<|cP (bH (aT O) (aT O) h52)<|cH O Wt<|cP (PJ (f:=(TI .u64)) fG (gP.same O) O (Lo.some (aT O)) (Lo.some (aT O)) h55)<|cM<|cS (SX (f:=(TI .u64)) (xs:=[]) (ys:=[.tmp 93]) (fun _=>O) (fun ps qs _=>Vq h57) gP.own O O h58 aU.nil (aU.cons (aT O) aU.nil) (gk O) O)<|cP (di fG O O (aT O) h60)<|cS (rM (f:=(TI .u64)) (fun _=>O) O O (bz h62) (aT O) dx)<|U 32256 O (ax ?_)
    obtain⟨x63,h64,q⟩:=aN q;exact rK<|cM<|cP (bF (aT O) aI h64)<|cO (oA O)<|U 32256 O (cm q O)
   ·refine aR<|ax<|ae<|rS<|cM<|cN<|cF [9,11,12,13,96,97] O ?_
    refine ai<|jT [9,12,13,96] O (σ:=att Int×Int) (fun BW=>[(11,.buf 255 1 (lT (TI .u64) BW.1)),(97,.val (TiZ BW.2))]) q O (fun k66 BW q=>?_)
    refine rS<|cL O O<|cF [9,11,12,13,96,97,98] O ?_
    refine ae<|gc O q (fun aqh q=>?_) fun aqh q=>?_
    ·refine ah<|ax<|ae<|xu [9,12,13,96,97] O (α:=(att Int)) (fun s68=>[(11,.buf 255 1 (lT (TI .u64) s68))]) q (fun k69 q=>?_) (fun s68 q=>?_)
     ·refine ai<|rS<|cM<|cA<|cF [9,11,12,13,15,96,97] O ?_
      obtain⟨x70,h71,x72,h73,YP,h75,x76,h77,x78,h79,q⟩:=b5 q;refine rS<|cQ<|cM<|cP (di fG O O (aT O) h71)<|cP (lY (f:=(TI .u64)) (fun _=>O) O O (bz h73) dx)<|cM<|cP (Gd (aT O) (aT O) h75)<|cP (di fG O O (aT O) h77)<|cS (rM (f:=(TI .u64)) (fun _=>O) O O (bz h79) (aT O) dx)<|cF [9,11,12,13,15,96,97] O ?_
      obtain⟨x80,h81,q⟩:=Hy q;refine rS<|cM<|cP (b9 (aT O) aI)<|cM<|gV O O (ov 15 O on) (fun vK=>oM O)<|gV O O (oo 110 O id on) (fun hg2=>bH (aT O) aI (h81 hg2))<|gV O O (ov 11 O on) (fun Y=>eX)<|gV O O (oo 112 O id (ov 11 O on)) (fun zC=>sx dK O O)<|gV O O (oo 111 O id (oo 113 O id on)) (fun CD=>dJ (aT O) (aT O))<|cP (dD (aT O) O jZ)<|cF [9,11,12,13,15,96,97,115] O ?_
      refine gc O q (fun aqe q=>?_) fun aqe q=>?_
      ·obtain⟨Xe,h84,x85,h86,x87,h88,Sq,h90,x91,h92,x93,h94,q⟩:=b6 q;obtain⟨x95,h96,x97,h98,x99,ac0,q⟩:=b3 q;exact gD 15 mixed<|dP [11] O (eX)<|dP [15] O (oM O)<|dP [116,117,11] O (di fG O O (aT O) h84)<|dP [118,11] O (lY (f:=(TI .u64)) (fun _=>O) O O (bz h86) dx)<|dP [11] O (eX)<|dP [15] O (oM O)<|dP [121] O (bH (aT O) aI h88)<|dP [120,122,11] O (di fG O O (aT O) h90)<|dP [123,11] O (lY (f:=(TI .u64)) (fun _=>O) O O (bz h92) dx)<|dP [9] O (oM O)<|dP [125] O (bF aI (aT O) h94)<|dP [124,126] O (M1 (aT O) (aT O) h96)<|dP [119,127] O (VQ (aT O) (aT O))<|dP [116,117,11] O (di fG O O (aT O) h98)<|dS [128,129,11] O (QM (f:=(TI .u64)) (fun _=>O) O O (bz ac0) (aT O) dx)<|dN<|dE [9,11,12,13,96,97] O aH<|cD (cm q O)
      ·exact ah (cm q O)
     ·refine ax ?_;obtain⟨aa1,ajP,q⟩:=aN q;exact rK<|cH O ajP<|cO (oM O)<|cF [9,11,12,13,96,97] O (cm q O)
    ·refine aR<|ax<|ae<|AH (jW (t:=13) O) ?_
     refine AH (jW (t:=11) O) ?_;refine vo (sS [9,11,12,13,96,97,98] O) ?_;obtain⟨aa0,ajO,Qv,acZ,Vo,acY,q⟩:=b3 q;refine gD 8 mixed<|dP [13] O (oM O)<|dP [131] O (oC (qq ajO) O)<|dP [11] O (oM O)<|dP [12] O (oM O)<|dP [133,134] O (tP fG (dY O) (aT O) Lo.none (Lo.some (aT O)) acZ)<|dP [135] O (oC (qq acY) O)<|dP [132] O (oA O)<|dP [136] O (oA O)<|dN<|dE [4,5] O aH<|cD (ax ?_)
     cases q;exact an (r2 O)
def Mk{a0 a1 r}(q:qH a0 a1=some r):c8 216 [(TL (TI .u64)) a0,(TL (TI .u64)) a1] [(TL (TI .u64)) r]:=by
 unfold qH at q;refine dR func216 O aH<| ?_
 refine rS<|cP (aC (Arg.nn (f:=(TI .u64))))<|U 3 O ?_
 refine ae<|rS<|cM<|cJ dK O<|cM<|cJ dK O<|cL O O<|U 8195 O ?_
 refine Eg (α:=att Int×att Int) (fun s1=>[(0,.val (TL (TI .u64) s1.1)),(1,.val (TL (TI .u64) s1.2))]) q (fun k2 q=>?_) (fun s1 q=>?_)
 ·refine gc O q (fun hb3 q=>?_) fun hb3 q=>?_
  ·exact rK<|cM<|cM<|cO (oA O)<|cO (oA O)<|U 3 O (cm q O)
  ·exact ah (cm q O)
 ·refine ax ?_;obtain⟨x4,h5,x6,h7,q⟩:=b2 q;refine rS<|cM<|cJ dK O<|cH O h5<|cP (Hu (TI .u64) ZQ yf O (aT O) (aT O) h7)<|cS (bX O O (gk O) _ (Or.inl O))<|U 35 O ?_
  refine rS<|cI<|U 99 O ?_
  refine ae<|rS<|cM<|cJ dK O<|cN<|U 6291555 O ?_
  refine ai<|jT [0,1,21] O (σ:=att Int×Int×Int) (fun s8=>[(5,.buf 255 1 (lT (TI .u64) s8.1)),(6,.val (TI .u64 s8.2.1)),(22,.val (TiZ s8.2.2))]) q O (fun k9 s8 q=>?_)
  refine rS<|cL O O<|U 14680163 O ?_
  refine ae<|gc O q (fun zD q=>?_) fun zD q=>?_
  ·refine ah<|ax<|ae<|ai<|rS<|cM<|cA<|U 6291683 O ?_
   refine rS<|cI<|U 6291939 O ?_
   refine ae<|rS<|cM<|cM<|cJ dK O<|cL O O<|U 274727395 O ?_
   refine xu [0,1,5,6,7,21,22] O (α:=Int) (fun Pw=>[(8,.val (TI .u64 Pw))]) q (fun PU q=>?_) (fun Pw q=>?_)
   ·refine gc O q (fun Gp q=>?_) fun Gp q=>?_
    ·obtain⟨jR,T,q⟩:=aN q;exact rK<|cM<|cM<|cP (oX fG (dY O) O O T)<|cR O dx<|cO (oA O)<|U 6291939 O (cm q O)
    ·exact ah (cm q O)
   ·refine ax ?_;obtain⟨jG,W,kZ,uo,mC,h21,uk,Db,q⟩:=b4 q;refine rK<|cQ<|cM<|cM<|cM<|cP (oX fG (dY O) O O W)<|cR O dx<|cM<|cM<|cP (AZ (B7 uo) (aU.cons (aT O) (aU.cons (aT O) (aU.cons (aT O) aU.nil))))<|cZ<|cE<|cE<|cP (di fG O O (aT O) h21)<|cS (rM (f:=(TI .u64)) (fun _=>O) O O (bz Db) (aT O) dx)<|cO (oA O)<|U 6291555 O (ax ?_)
    obtain⟨wy,JE,q⟩:=aN q;exact rK<|cH O JE<|cO (oM O)<|U 6291555 O (cm q O)
  ·refine aR (ax ?_);obtain⟨Bj,JD,yE,Gq,q⟩:=b2 q;refine rS<|cQ<|cM<|cJ dK O<|cM<|cP (di fG O O (aT O) JD)<|cS (rM (f:=(TI .u64)) (fun _=>O) O O (bz Gq) (aT O) dx)<|cF [5] O ?_
   obtain⟨yg,Iw,q⟩:=aN q;refine rS<|cQ<|cG (jW (t:=5) O)<|cG (kS (s:=52) O O)<|cC (qq Iw) O<|cA<|cF [4] O ?_
   cases q;exact an (r1 O)
def Ds{a0 a1 r}(q:qG a0 a1=some r):c8 218 [(TL (TI .u64)) a0,(TL (TI .u64)) a1] [(TL (TI .u64)) r]:=by
 refine dR func218 O aH<| ?_
 refine rS<|cP (aC (Arg.nn (f:=(TI .u64))))<|U 3 O ?_
 obtain⟨x1,h2,q⟩:=aN q;refine rS<|cM<|cJ dK O<|cP (Hu (TI .u64) ZQ yf O (aT O) (aT O) h2)<|cS (bX O O (gk O) _ (Or.inl O))<|U 35 O ?_
 refine rS<|cI<|U 99 O ?_
 refine ae<|rS<|cM<|cJ dK O<|cN<|U 24675 O ?_
 refine ai<|jT [0,1,13] O (σ:=att Int×Int×Int) (fun s3=>[(5,.buf 255 1 (lT (TI .u64) s3.1)),(6,.val (TI .u64 s3.2.1)),(14,.val (TiZ s3.2.2))]) q O (fun k4 s3 q=>?_)
 refine rS<|cL O O<|U 57443 O ?_
 refine ae<|gc O q (fun Jw q=>?_) fun Jw q=>?_
 ·refine ah<|ax<|ae<|ai<|rS<|cM<|cA<|U 24803 O ?_
  refine rS<|cI<|U 25059 O ?_
  refine ae<|rS<|cM<|cM<|cJ dK O<|cL O O<|U 1073635 O ?_
  refine xu [0,1,5,6,7,13,14] O (α:=Int) (fun s6=>[(8,.val (TI .u64 s6))]) q (fun k7 q=>?_) (fun s6 q=>?_)
  ·refine gc O q (fun vE q=>?_) fun vE q=>?_
   ·obtain⟨x9,lA,q⟩:=aN q;exact rK<|cM<|cM<|cP (oX fG (dY O) O O lA)<|cR O dx<|cO (oA O)<|U 25059 O (cm q O)
   ·exact ah (cm q O)
  ·refine ax ?_;obtain⟨gT,M,j9,P,jH,S,jN,V,q⟩:=b4 q;refine rK<|cQ<|cM<|cM<|cM<|cP (oX fG (dY O) O O M)<|cR O dx<|cM<|cM<|cP (AZ (QV P) (aU.cons (aT O) (aU.cons (aT O) (aU.cons (aT O) aU.nil))))<|cZ<|cE<|cE<|cP (di fG O O (aT O) S)<|cS (rM (f:=(TI .u64)) (fun _=>O) O O (bz V) (aT O) dx)<|cO (oA O)<|U 24675 O (ax ?_)
   obtain⟨kq,xt,q⟩:=aN q;exact rK<|cH O xt<|cO (oM O)<|U 24675 O (cm q O)
 ·refine aR (ax ?_);obtain⟨og,Be,q⟩:=aN q;refine rS<|cQ<|cG (jW (t:=5) O)<|cG (kS (s:=39) O O)<|cC (qq Be) O<|cA<|cF [4] O ?_
  cases q;exact an (r1 O)
end
end Trn
