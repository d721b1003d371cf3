/-
  Part of the proof of SolidNormals.
-/
import Derived.Test.YtflhfjdapojoiaaGreatDoorWd
set_option maxRecDepth 100000
set_option maxHeartbeats 20000000
set_option linter.all false
open Go Go.RowKit Go.Proofs Go.Proofs.Tryz
namespace Trn
section
variable[D:DR]
def Ma{a0 a1 r}(q:DV a0 a1=some r):c8 118 [(TL az) a0,(TL bI) a1] [(TL (TL az)) r]:=
 dR func118 O aH<|rS<|cP (bL (TL az) 75 1)<|U 3 O<|ae<|bn q fun x1 h2 q=>rS<|cM<|cM<|cC (jU h2) O<|cZ<|cE<|cE<|cA<|cA<|U 67 O<|rS<|cM<|cP (fT (aT O))<|U 524291 O<|gc O q (fun hb3 q=>rS<|cM<|cP (xj (s':= .buf 75 1 (lT (TL az) ([a0]:att (att ((V3×Rat)×(att V3)))))) (WY L3 UR O O O (jv.cons (i:=0) (aT O) O O jv.nil) O) O)<|cS (bX O O (gk O) _ (Or.inl O))<|cF [4] O<|by cases q;exact an (dZ (jW (t:=4) O) (eM O O (bg.tmp O O bg.nil)))) fun hb3 q=>ah<|ax<|rS<|cP (bL (TL az) 75 1)<|U 131 O<|ae<|rS<|cM<|cJ rC O<|cN<|U 29360257 O<|ai<|jT [22,23] O (σ:=(att ((V3×Rat)×(att V3)))×(att (att ((V3×Rat)×(att V3))))×Int) (fun s4=>[(0,.val (TL az s4.1)),(7,.buf 75 1 (lT (TL az) s4.2.1)),(24,.val (TiZ s4.2.2))]) q O (fun k5 s4 q=>by exact rS<|cL O O<|U 62914689 O<|ae<|gc O q (fun KN q=>ah<|ax<|ae<|ai<|bn q fun x7 h8 q=>rS<|cP (oX F8 (dY O) O O h8)<|cR O gq<|cT iZ<|cs O O O gq<|U 29360769 O<|ae<|kM q fun x9 lA gT M q=>rS<|cM<|cU O gq<|cC (xS lA) O<|cC (lU M) O<|cZ<|cE<|cE<|cA<|cA<|U 29363841 O<|rS<|cM<|U 34389100161 O<|xu [0,9,22,23,24] O (α:=(att (att ((V3×Rat)×(att V3))))) (fun K2=>[(7,.buf 75 1 (lT (TL az) K2))]) q (fun k14 q=>by exact gc O q (fun Ws q=>bn q fun jG W q=>by exact rK<|cQ<|cM<|cP (bS L3 UR O O)<|cS (eC oN Qn (dY O) O O (aT O) W (gk O))<|cS (bX O O (gk O) _ (Or.inl O))<|U 29360769 O (cm q O)) fun Ws q=>ah (cm q O)) (fun K2 q=>by exact ax<|bn q fun kZ uo q=>by exact rK<|cM<|cU O gq<|cC (lU uo) O<|cZ<|cE<|cE<|cO (oA O)<|U 29360257 O (ax (bn q fun mC h21 q=>by exact rK<|cH O h21<|cO (oM O)<|U 29360257 O (cm q O))))) fun KN q=>aR<|ax<|rS<|cQ<|cG (jW (t:=7) O)<|cG (kS (s:=47) O O)<|cA<|cF [4] O<|an (fz q O))
def FC{a0 a1 r}(q:A5 a0 a1=some r):c8 53 [(TL (TL az)) a0,(TL (TL aq)) a1] [(TL (TL az)) r]:=
 dR func53 O aH<|rS<|cP (aC (Arg.nn (f:=(TL az))))<|U 3 O<|ae<|rS<|cM<|cJ Ec O<|cN<|U 7169 O<|ai<|jT [10,11] O (σ:=(att (att ((V3×Rat)×(att V3))))×Int) (fun s1=>[(0,.val (TL (TL az) s1.1)),(12,.val (TiZ s1.2))]) q O (fun k2 s1 q=>by exact rS<|cL O O<|U 15361 O<|ae<|gc O q (fun hb3 q=>ah<|ax<|ae<|ai<|bn q fun x4 h5 q=>rS<|cP (oX FL (dY O) O O h5)<|cR O FW<|cA<|U 7233 O<|rS<|cP (bL (TL az) 75 1)<|U 7361 O<|ae<|rS<|cM<|cJ oN O<|cN<|U 466112 O<|ai<|jT [6,10,11,12,16,17] O (σ:=(att (att ((V3×Rat)×(att V3))))×Int) (fun s6=>[(7,.buf 75 1 (lT (TL az) s6.1)),(18,.val (TiZ s6.2))]) q O (fun k7 s6 q=>by exact rS<|cL O O<|U 990400 O<|ae<|gc O q (fun vE q=>ah<|ax<|ae<|ai<|bn q fun x9 lA q=>rS<|cP (oX Bv (dY O) O O lA)<|cR O C5<|cA<|U 466624 O<|wZ q fun gT M j9 P jH S q=>by exact rK<|cQ<|cM<|cM<|cC (GL M) O<|cC (Ma P) O<|cS (eC oN Qn (dY O) O O (aT O) S (gk O))<|cS (bX O O (gk O) _ (Or.inl O))<|U 466112 O (ax (bn q fun jN V q=>by exact rK<|cH O V<|cO (oM O)<|U 466112 O (cm q O)))) fun vE q=>aR<|ax<|by exact rK<|cQ<|cG (jW (t:=7) O)<|cG (kS (s:=29) O O)<|cA<|U 7169 O (ax (bn q fun kq xt q=>by exact rK<|cH O xt<|cO (oM O)<|U 7169 O (cm q O))))) fun hb3 q=>aR<|ax<|rS<|cM<|cA<|cF [4] O<|an (fz q O))
def Ox{a0 a1 r}(q:A8 a0 a1=some r):c8 19 [(TL (TL aq)) a0,(TL (TL aq)) a1] [(TL (TL aq)) r.1,TiZ r.2]:=
 dR func19 O aH<|rS<|cP (aC (Arg.nn (f:=(TL aq))))<|cI<|U 3 O<|bn q fun x1 h2 q=>rS<|cM<|cM<|cC (yh h2) O<|cZ<|cE<|cE<|cE<|cA<|cA<|cA<|U 322 O<|ae<|rS<|cM<|cP (dH (aT O) aI)<|U 131394 O<|gc O q (fun hb3 q=>rS<|cM<|cP (aC (Arg.nn (f:=(TL aq))))<|cA<|U 48 O<|by cases q;exact an (dZ (Jn (t:=4) O) (eM O O (bg.tmp O O (bg.tmp O O bg.nil))))) fun hb3 q=>ah (ax (kM q fun x4 h5 x6 h7 q=>rS<|cM<|cM<|cC (FC h5) O<|cC (sT h7) O<|cE<|cE<|cA<|cA<|U 48 O<|by cases q;exact an (r2 O)))
def wA{a0 r}(q:sE a0=some r):c8 54 [(TL TiZ) a0] [TiZ r]:=
 dR func54 O aH<|rS<|cI<|U 1 O<|ae<|rS<|cM<|cJ XZ O<|cN<|U 224 O<|ai<|jT [5,6] O (σ:=Int) (fun s1=>[(7,.val (TiZ s1))]) q O (fun k2 s1 q=>by exact rS<|cL O O<|U 480 O<|ae<|gc O q (fun hb3 q=>ah<|ax<|ae<|ai<|bn q fun x4 h5 q=>rS<|cP (oX abi (dY O) O O h5)<|cR O ahy<|cA<|U 240 O<|rS<|cM<|cP (dH (aT O) aI)<|U 4336 O<|gc O q (fun KN q=>rS<|cM<|cA<|U 4 O<|an (fz q O)) fun KN q=>ah (ax (bn q fun x7 h8 q=>by exact rK<|cH O h8<|cO (oM O)<|U 224 O (cm q O)))) fun hb3 q=>aR<|ax<|rS<|cI<|U 4 O<|an (fz q O))
def Sx{a0 a1 r}(q:DX a0 a1=some r):c8 20 [(TL (TL aq)) a0,aq a1] [(TL (TL aq)) r.1,TiZ r.2]:=
 dR func20 O aH<|rS<|cX<|cP (aC (Arg.nn (f:=(TL aq))))<|cI<|U 9 O<|bn q fun x1 h2 q=>rS<|cM<|cC (lS h2) O<|cZ<|cE<|cE<|cA<|cA<|U 200 O<|ae<|kM q fun x3 h4 x5 h6 q=>rS<|cM<|cU O ji<|cC (uu h4) O<|cP (bS L4 N1 O O)<|cC (wA h6) O<|cO (oA O)<|U 200 O<|rS<|cM<|cP (dH (aT O) aI)<|U 16777416 O<|gc O q (fun Bc q=>rS<|cM<|cP (aC (Arg.nn (f:=(TL aq))))<|cA<|U 48 O<|by cases q;exact an (dZ (Jn (t:=4) O) (eM O O (bg.tmp O O (bg.tmp O O bg.nil))))) fun Bc q=>ah<|ax<|rS<|cP (bL (TL az) 75 1)<|U 328 O<|ae<|rS<|cM<|cJ oN O<|cN<|U 469762312 O<|ai<|jT [3,26,27] O (σ:=(att (att ((V3×Rat)×(att V3))))×Int) (fun s8=>[(8,.buf 75 1 (lT (TL az) s8.1)),(28,.val (TiZ s8.2))]) q O (fun k9 s8 q=>by exact rS<|cL O O<|U 1006633224 O<|ae<|gc O q (fun zD q=>ah<|ax<|ae<|xu [3,26,27,28] O (α:=(att (att ((V3×Rat)×(att V3))))) (fun Pw=>[(8,.buf 75 1 (lT (TL az) Pw))]) q (fun PU q=>by exact ai<|bn q fun j9 P q=>rS<|cP (oX Bv (dY O) O O P)<|cR O C5<|cA<|U 469763336 O<|kM q fun jH S jN V q=>rS<|cM<|cU O ji<|cC (yN S) O<|cC (lU V) O<|cZ<|cE<|cE<|cA<|cA<|U 469768456 O<|rS<|cM<|U 550225578248 O<|gc O q (fun aqu q=>bn q fun mC h21 q=>by exact rK<|cQ<|cM<|cP (bS L3 UR O O)<|cS (eC oN Qn (dY O) O O (aT O) h21 (gk O))<|cS (bX O O (gk O) _ (Or.inl O))<|U 469762312 O (cm q O)) fun aqu q=>ah (cm q O)) (fun Pw q=>by exact ax<|bn q fun uk Db q=>by exact rK<|cH O Db<|cO (oM O)<|U 469762312 O (cm q O))) fun zD q=>aR (ax (bn q fun wy JE q=>rS<|cQ<|cG (jW (t:=8) O)<|cG (kS (s:=45) O O)<|cC (sT JE) O<|cE<|cE<|cA<|cA<|U 48 O<|by cases q;exact an (r2 O))))
def GQ{a0 r}(q:Cl a0=some r):c8 62 [(TL ay) a0] [ay r]:=
 dR func62 O aH<|rS<|cT bK<|U 5 O<|bn q fun x1 h2 q=>rS<|cC (uq h2) O<|cT bK<|cs O O O m<|U 13 O<|ae<|bn q fun x3 h4 q=>rS<|cM<|cC (FA h4) O<|U 140 O<|ai<|bn q fun x9 lA q=>RU (σ:=V3) [2,3] (fun s5=>[(2,.own 97 (Bg 12 true)),(3,.own 97 (ay s5))]) none q lA O O O (sS [2,3] O) (fun _=>O) (fun G h=>by cases h) (fun _=>O) O (by decide) (fun wr Hr l rc pv k8 x6 s5 hrd q=>by exact rK<|cT Pc<|cs O O O ace<|U 52428828 O (adM (sS [21,2,3,4,24,25] O) O (ai<|kM q fun gT M j9 P q=>gD 8 mixed<|dP [3] O (ak O m)<|dP [4] O (iO O CN O)<|dP [10,4] O (oP 0 O O m)<|dP [4] O (iO O CN O)<|dP [12,4] O (oP 1 O O m)<|dP [11,13] O (oC (sR M) O)<|dP [9,14] O (oC (jw P) O)<|dS [3,15] O (ds O O O m)<|dN<|dE [2,3,21,24,25] O aH<|cD (LX (Sc:=none) q (sS [21,24,25,2,3] O))))) (fun s5 q=>ax (Ql q fun jG W kZ uo mC h21 uk Db q=>gE 6 mixed<|dP [3] O (ak O m)<|dP [] O (oC (sOf W) O)<|dP [] O (oC (sOf uo) O)<|dP [17,18] O (oC (Tf h21) O)<|dP [16,19] O (oC (mJ Db) O)<|dS [2,20] O (ds O O O m)<|dN<|dE [2] O aH<|cD<|an (qV q O m))) (fun G h=>by cases h)
def Kq{a0 r}(q:C2 a0=some r):c8 133 [ay a0] [bj r]:=
 dR func133 O aH<|rS<|cX<|cB<|U 2 O<|bn q fun x1 h2 q=>kT q fun x3 h4 q=>kT q fun x5 h6 q=>rS<|cP (iO O Z O)<|cV 0 O O d<|cC (oj h2) O<|cM<|gV O O (ov 1 O on) (fun vK=>iO O Z O)<|gV O O (oo 7 O id (ov 1 O on)) (fun hg2=>oP 1 O O d)<|gV O O (oo 8 O id on) (fun Y=>oC (oj (h4 Y)) O)<|cP (gj (aT O) O j8)<|cM<|gV O O (ov 1 O on) (fun zC=>iO O Z O)<|gV O O (oo 12 O id (ov 1 O on)) (fun CD=>oP 2 O O d)<|gV O O (oo 13 O id on) (fun Dj=>oC (oj (h6 Dj)) O)<|cP (gj (aT O) O j8)<|cA<|U 4 O<|an (fz q O)
def L8{a0 r}(q:DU a0=some r):c8 134 [ay a0] [bb r]:=
 dR func134 O aH<|rS<|cX<|cT fS<|U 6 O<|wZ q fun x1 h2 x3 h4 x5 h6 q=>gE 11 mixed<|dP [1] O (iO O Z O)<|dP [3,1] O (oP 0 O O d)<|dP [4] O (oC (py h2) O)<|dP [1] O (iO O Z O)<|dP [6,1] O (oP 1 O O d)<|dP [7] O (oC (py h4) O)<|dP [1] O (iO O Z O)<|dP [9,1] O (oP 2 O O d)<|dP [10] O (oC (py h6) O)<|dP [5,8,11] O (bA fS gG O O)<|dS [2,12] O (ds O O O C)<|dN<|dE [2] O aH<|cD<|an (qV q O C)
def AN{a0 r}(q:pM a0=some r):c8 63 [ay a0] [bb r.1,TiZ r.2]:=
 dR func63 O aH<|rS<|cX<|cT fS<|cI<|U 6 O<|ae<|bn q fun x1 h2 q=>rS<|cU O m<|cC (Kq h2) O<|U 38 O<|gc O q (fun hb3 q=>rS<|cP (bA fS gG O O)<|cs O O O C<|cI<|U 12 O<|by cases q;exact an (eM O O (bg.cell O (nm C) O (bg.tmp O O bg.nil)))) fun hb3 q=>ah (ax (bn q fun x4 h5 q=>rS<|cU O m<|cC (L8 h5) O<|cs O O O C<|cI<|U 12 O<|by cases q;exact an (eM O O (bg.cell O (nm C) O (bg.tmp O O bg.nil)))))
def Kv{a0 a1 r}(q:xG a0 a1=some r):c8 22 [(TL (TL aq)) a0,aq a1] [bb r.1,TiZ r.2]:=
 dR func22 O aH<|rS<|cX<|cT fS<|cI<|U 25 O<|bn q fun x1 h2 q=>rS<|cM<|cC (lS h2) O<|cZ<|cE<|cE<|cA<|cA<|U 216 O<|ae<|kM q fun x3 h4 x5 h6 q=>rS<|cM<|cU O ji<|cC (uu h4) O<|cP (bS L4 N1 O O)<|cC (wA h6) O<|cO (oA O)<|U 216 O<|rS<|cM<|cP (dH (aT O) aI)<|U 134217944 O<|gc O q (fun Bc q=>rS<|cP (bA fS gG O O)<|cM<|cs O O O C<|cA<|U 48 O<|by cases q;exact an (eM O O (bg.cell O (nm C) O (bg.tmp O O bg.nil)))) fun Bc q=>ah (ax (bn q fun x8 h9 q=>rS<|cU O ji<|cC (yN h9) O<|cT iZ<|cs O O O gq<|U 336 O<|bn q fun iI nA q=>rS<|cC (uq nA) O<|cT bK<|cs O O O m<|U 848 O<|ae<|rS<|cM<|cJ oN O<|cN<|U 60129542928 O<|ai<|jT [4,8,33,34] O (σ:=V3×Int) (fun Di=>[(9,.own 97 (ay Di.1)),(35,.val (TiZ Di.2))]) q O (fun k13 Di q=>by exact rS<|cL O O<|U 128849019664 O<|ae<|gc O q (fun Jz q=>ah<|ax<|ae<|ai<|bn q fun jH S q=>rS<|cP (oX Bv (dY O) O O S)<|cR O C5<|cA<|U 60129544976 O<|bn q fun jN V q=>rS<|cM<|cU O gq<|cC (lU V) O<|cZ<|cE<|cE<|cA<|cA<|U 60129547024 O<|rS<|cM<|cJ vn O<|cN<|U 246350734164752 O<|ai<|jT [4,8,33,34,35,45,46] O (σ:=V3×Int) (fun s19=>[(9,.own 97 (ay s19.1)),(47,.val (TiZ s19.2))]) q O (fun k20 s19 q=>by exact rS<|cL O O<|U 527825710875408 O<|ae<|gc O q (fun ND q=>ah<|ax<|ae<|xu [4,8,33,34,35,45,46,47] O (α:=V3) (fun s22=>[(9,.own 97 (ay s22))]) q (fun k23 q=>by exact ai<|bn q fun wy JE q=>rS<|cP (oX FK (dY O) O O JE)<|cR O oL<|cT lN<|cs O O O oL<|U 246350734197520 O<|bn q fun Bj JD q=>kT q fun yE Gq q=>rS<|cK O qQ<|cP (ki O kX)<|cP (cq O O (ba.trans (ba.agg (i:=0) O O) O (ba.agg (i:=0) O O)) m)<|o0 0 O kX O m<|cC (qp JD) O<|cM<|gV O O (ov 15 O on) (fun vK=>bM O qQ)<|gV O O (oo 58 O id (ov 15 O on)) (fun hg2=>ki O pF)<|gV O O (oo 59 O id (ov 15 O on)) (fun Y=>cq O O (ba.trans (ba.agg (i:=0) O O) O (ba.agg (i:=1) O O)) d)<|gV O O (ov 8 O on) (fun zC=>bM O pF)<|gV O O (oo 61 O id (ov 8 O on)) (fun CD=>oP 1 O O d)<|gV O O (oo 60 O id (oo 62 O id on)) (fun Dj=>oC (QQ (Gq Dj)) O)<|cP (dD (aT O) O jZ)<|U 18446990424443749136 O<|gc O q (fun ajF q=>kM q fun CT JC EA NG q=>gD 6 mixed<|dP [9] O (ak O m)<|dQ 1 O vq O nU<|dP [67] O (oC (GQ JC) O)<|dP [65,68] O (oC (jw NG) O)<|dS [9,69] O (ds O O O m)<|dN<|dE [4,8,9,33,34,35,45,46,47] O aH<|cD (cm q O)) fun ajF q=>ah (cm q O)) (fun s22 q=>by exact ax<|bn q fun C8 O0 q=>by exact rK<|cH O O0<|cO (oM O)<|U 246350734164752 O (cm q O))) fun ND q=>aR (ax (bn q fun Bi KQ q=>by exact rK<|cH O KQ<|cO (oM O)<|U 60129542928 O (cm q O))))) fun Jz q=>aR (ax (bn q fun BX KP q=>rS<|cU O m<|cC (AN KP) O<|cE<|cE<|cs O O O C<|cA<|U 48 O<|by cases q;exact an (eM O O (bg.cell O (nm C) O (bg.tmp O O bg.nil))))))))
def Kr{a0 a1 r}(q:C3 a0 a1=some r):c8 64 [(TL (TL az)) a0,(TL (TL az)) a1] [(TMp iH ay) r]:=by
 refine dR func64 O aH<| ?_
 refine rS<|cP (aC (Arg.c O))<|U 3 O ?_
 refine rS<|cP (aiJ (K:=125) (E:=97) (Eb:=0) (sz:=0) (α:=(Int×Int×Int)×ad3) (β:=Rat×Rat×Rat) iH (fun v=> .val (ay v)))<|cS (bX O O (gk O) _ (Or.inl O))<|U 35 O ?_
 refine ae<|rS<|cM<|cJ oN O<|cN<|U 117440546 O ?_
 refine ai<|jT [1,24,25] O (σ:=(att (((Int×Int×Int)×ad3)×V3))×Int) (fun s1=>[(5,.Jl 125 97 0 0 (mM iH (fun v=> .val (ay v)) s1.1)),(26,.val (TiZ s1.2))]) q O (fun k2 s1 q=>?_)
 refine rS<|cL O O<|U 251658274 O ?_
 refine ae<|gc O q (fun hb3 q=>?_) fun hb3 q=>?_
 ·refine ah<|ax<|ae<|ai ?_
  obtain⟨x4,h5,q⟩:=aN q;refine rS<|cP (oX Bv (dY O) O O h5)<|cR O C5<|cA<|U 117440674 O ?_
  refine rS<|cM<|cJ vn O<|cN<|U 7633633314 O ?_
  refine ai<|jT [1,24,25,26,30,31] O (σ:=(att (((Int×Int×Int)×ad3)×V3))×Int) (fun s6=>[(5,.Jl 125 97 0 0 (mM iH (fun v=> .val (ay v)) s6.1)),(32,.val (TiZ s6.2))]) q O (fun k7 s6 q=>?_)
  refine rS<|cL O O<|U 16223567906 O ?_
  refine ae<|gc O q (fun vE q=>?_) fun vE q=>?_
  ·refine ah<|ax<|ae<|ai ?_
   obtain⟨x9,lA,q⟩:=aN q;refine rS<|cP (oX FK (dY O) O O lA)<|cR O oL<|cT lN<|cs O O O oL<|U 7633633826 O ?_
   obtain⟨gT,M,q⟩:=aN q;refine rS<|o0 0 O qQ O gq<|cC (CV M) O<|cZ<|cE<|cE<|cT qo<|cs O O O ji<|cA<|U 7633634850 O ?_
   refine rS<|o0 0 O iN O vJ<|o0 1 O od O gp<|cP (bB Qt ae2 O)<|cT Qt<|cs O O O RG<|U 7633637922 O ?_
   refine rS<|cM<|cJ oN O<|cN<|U 985170052125218 O ?_
   refine ai<|jT [1,9,12,24,25,26,30,31,32,47,48] O (σ:=(att (((Int×Int×Int)×ad3)×V3))×Int) (fun K2=>[(5,.Jl 125 97 0 0 (mM iH (fun v=> .val (ay v)) K2.1)),(49,.val (TiZ K2.2))]) q O (fun k14 K2 q=>?_)
   refine rS<|cL O O<|U 2111069958967842 O ?_
   refine ae<|gc O q (fun Ws q=>?_) fun Ws q=>?_
   ·refine ah<|ax<|ae<|ai ?_
    obtain⟨jG,W,q⟩:=aN q;refine rS<|cP (oX Bv (dY O) O O W)<|cR O C5<|cA<|U 985170052141602 O ?_
    refine rS<|cM<|cJ vn O<|cN<|U 64035564835328546 O ?_
    refine ai<|jT [1,9,12,14,24,25,26,30,31,32,47,48,49,53,54] O (σ:=(att (((Int×Int×Int)×ad3)×V3))×Int) (fun K1=>[(5,.Jl 125 97 0 0 (mM iH (fun v=> .val (ay v)) K1.1)),(55,.val (TiZ K1.2))]) q O (fun ZY K1 q=>?_)
    refine rS<|cL O O<|U 136093158873256482 O ?_
    refine ae<|gc O q (fun RS q=>?_) fun RS q=>?_
    ·refine ah<|ax<|ae<|xu [1,9,12,14,24,25,26,30,31,32,47,48,49,53,54,55] O (α:=(att (((Int×Int×Int)×ad3)×V3))) (fun Jd=>[(5,.Jl 125 97 0 0 (mM iH (fun v=> .val (ay v)) Jd))]) q (fun ZX q=>?_) (fun Jd q=>?_)
     ·refine ai ?_;obtain⟨oe,zO,q⟩:=aN q;refine rS<|cP (oX FK (dY O) O O zO)<|cR O oL<|cT lN<|cs O O O oL<|U 64035564835394082 O ?_
      obtain⟨qW,CF,q⟩:=aN q;refine rS<|o0 0 O qQ O gq<|cC (xS CF) O<|cT iZ<|cs O O O gq<|U 64035564835459618 O ?_
      refine ae ?_;obtain⟨rJ,Fv,q⟩:=aN q;obtain⟨CU,KR,q⟩:=Hy q;refine rS<|o0 0 O kX O m<|cK O qQ<|cP (ki O kX)<|cP (cq O O (ba.trans (ba.agg (i:=0) O O) O (ba.agg (i:=0) O O)) m)<|cC (qp Fv) O<|cP (fT (aT O))<|cM<|gV O O (ov 17 O on) (fun vK=>bM O pF)<|gV O O (oo 70 O id (ov 17 O on)) (fun hg2=>oP 1 O O d)<|gV O O (ov 9 O on) (fun Y=>bM O qQ)<|gV O O (oo 72 O id (ov 9 O on)) (fun zC=>ki O pF)<|gV O O (oo 73 O id (ov 9 O on)) (fun CD=>cq O O (ba.trans (ba.agg (i:=0) O O) O (ba.agg (i:=1) O O)) d)<|gV O O (oo 71 O id (oo 74 O id on)) (fun Dj=>oC (QQ (KR Dj)) O)<|gV O O (oo 75 O id on) (fun Nz=>fT (aT O))<|cP (gj (aT O) O j8)<|U 151115791487393482166818 O ?_
      refine gc O q (fun acL q=>?_) fun acL q=>?_
      ·exact aR (cm q O)
      ·refine ah<|ax<|rS<|o0 1 O vq O nU<|cA<|U 64035564835590690 O ?_
       refine ae ?_;obtain⟨wx,O1,q⟩:=aN q;refine rS<|cM<|cC (mP O1) O<|cJ rC O<|cN<|U 16924961538640373281477154 O ?_
       refine ai<|jT [1,5,9,12,14,24,25,26,30,31,32,47,48,49,53,54,55,81,82] O (σ:=(att V3)×Int) (fun B8=>[(18,.val (TL ay B8.1)),(83,.val (TiZ B8.2))]) q O (fun ZW B8 q=>?_)
       refine rS<|cL O O<|U 36267774652474440076775970 O ?_
       refine ae<|gc O q (fun Wp q=>?_) fun Wp q=>?_
       ·refine ah<|ax<|ae<|ai ?_
        obtain⟨Bi,KQ,q⟩:=aN q;refine rS<|cP (oX F8 (dY O) O O KQ)<|cR O gq<|cT iZ<|cs O O O gq<|U 16924961538640373282525730 O ?_
        obtain⟨BX,KP,q⟩:=aN q;refine rK<|cM<|cU O gq<|cC (xT KP) O<|cO (oA O)<|U 16924961538640373281477154 O (ax ?_)
        obtain⟨IQ,Ut,q⟩:=aN q;exact rK<|cH O Ut<|cO (oM O)<|U 16924961538640373281477154 O (cm q O)
       ·refine aR<|ax<|rS<|cQ<|cU O RG<|cP (aiK (F:=ay) (hF:=fun _=>⟨O,O⟩) (x:=(gT.1.1,gT.1.2)) Rs ahz (akU zR) (IJ.same O) O (aT O))<|cZ<|cE<|cE<|cT bK<|cs O O O m<|cA<|U 64035564841882146 O ?_
        refine ae<|rS<|cM<|cP (fT (aT O))<|U 316912650057121385939013489186 O ?_
        refine xu [1,5,9,12,14,18,24,25,26,30,31,32,47,48,49,53,54,55] O (α:=V3) (fun s43=>[(21,.own 97 (ay s43))]) q (fun k44 q=>?_) (fun s43 q=>?_)
        ·refine gc O q (fun Uq q=>?_) fun Uq q=>?_
         ·obtain⟨L5,Sp,q⟩:=aN q;exact rK<|cC (uq Sp) O<|cs O O O m<|U 64035564837687842 O (cm q O)
         ·refine AH (ac2 (t:=21) (z:=(0,0,0)) O Uq) ?_;exact ah (cm q O)
        ·refine ax ?_;obtain⟨JS,h49,KV,h51,q⟩:=b2 q;exact gD 7 mixed<|dP [] O (eX)<|dP [12] O (ak O RG)<|dP [21] O (ak O m)<|dP [18] O (oM O)<|dP [103] O (oC (GQ h49) O)<|dP [102,104] O (oC (jw h51) O)<|dS [100,101,105,5] O (ae4 (F:=ay) (x:=(gT.1.1,gT.1.2)) (y:=KV) Rs ahz (IJ.same O) O (aT O) (aT O))<|dN<|dE [1,5,9,12,14,24,25,26,30,31,32,47,48,49,53,54,55] O aH<|cD (cm q O)
     ·refine ax ?_;obtain⟨JR,h53,q⟩:=aN q;exact rK<|cH O h53<|cO (oM O)<|U 64035564835328546 O (cm q O)
    ·refine aR (ax ?_);obtain⟨Pf,h55,q⟩:=aN q;exact rK<|cH O h55<|cO (oM O)<|U 985170052125218 O (cm q O)
   ·refine aR (ax ?_);obtain⟨Sd,h57,q⟩:=aN q;exact rK<|cH O h57<|cO (oM O)<|U 7633633314 O (cm q O)
  ·refine aR (ax ?_);obtain⟨Pd,h59,q⟩:=aN q;exact rK<|cH O h59<|cO (oM O)<|U 117440546 O (cm q O)
 ·refine aR<|ax<|rS<|cQ<|cG (abA (t:=5) O)<|cG (alm (u:=110) O O)<|cA<|cF [4] O ?_
  cases q;exact an (r1 O)
def Bm{a0 r}(q:ot a0=some r):c8 65 [ay a0] [bj r]:=
 dR func65 O aH<|rS<|cX<|cB<|U 2 O<|bn q fun x1 h2 q=>kT q fun x3 h4 q=>kT q fun x5 h6 q=>rS<|cP (iO O Z O)<|cV 0 O O d<|cC (xB h2) O<|cP (cw (aT O) aI)<|cM<|gV O O (ov 1 O on) (fun vK=>iO O Z O)<|gV O O (oo 8 O id (ov 1 O on)) (fun hg2=>oP 1 O O d)<|gV O O (oo 9 O id on) (fun Y=>oC (xB (h4 Y)) O)<|gV O O (oo 10 O id on) (fun zC=>cw (aT O) aI)<|cP (dD (aT O) O jZ)<|cM<|gV O O (ov 1 O on) (fun CD=>iO O Z O)<|gV O O (oo 14 O id (ov 1 O on)) (fun Dj=>oP 2 O O d)<|gV O O (oo 15 O id on) (fun Nz=>oC (xB (h6 Nz)) O)<|gV O O (oo 16 O id on) (fun Un=>cw (aT O) aI)<|cP (dD (aT O) O jZ)<|cA<|U 4 O<|an (fz q O)
def F2{a0 a1 r}(q:o6 a0 a1=some r):c8 67 [fA a0,fA a1] [TiZ r]:=
 dR func67 O aH<|rS<|cX<|cX<|cI<|U 12 O<|UX q fun x1 h2 x3 h4 x5 h6 x7 h8 x9 lA q=>gE 19 mixed<|dP [2] O (bM O LW)<|dP [5] O (ki O iN)<|dP [6,2] O (cq O O (ba.trans (ba.agg (i:=0) O O) O (ba.agg (i:=0) O O)) vJ)<|dP [3] O (bM O LW)<|dP [8] O (ki O iN)<|dP [9,3] O (cq O O (ba.trans (ba.agg (i:=0) O O) O (ba.agg (i:=0) O O)) vJ)<|dP [7,10] O (oC (yO h2) O)<|dP [2] O (bM O LW)<|dP [12] O (ki O od)<|dP [13,2] O (cq O O (ba.trans (ba.agg (i:=0) O O) O (ba.agg (i:=1) O O)) gp)<|dP [14] O (oC (vO h4) O)<|dP [3] O (bM O LW)<|dP [16] O (ki O od)<|dP [17,3] O (cq O O (ba.trans (ba.agg (i:=0) O O) O (ba.agg (i:=1) O O)) gp)<|dP [18] O (oC (vO h6) O)<|dP [15,19] O (oC (Pq h8) O)<|dP [11,20] O (bS xR vt O O)<|dP [21] O (oC (B1 lA) O)<|dP [22] O (oA O)<|dN<|dE [4] O aH<|cD<|an (fz q O)
def I1{a0 a1 r}(q:vZ a0 a1=some r):c8 23 [(TL (TL aq)) a0,(TL (TL aq)) a1] [(TL fA) r.1,TiZ r.2]:=by
 refine dR func23 O aH<|rS<|cP (bL fA 72 7)<|cI<|U 3 O ?_
 obtain⟨x1,h2,q⟩:=aN q;refine rS<|cM<|cM<|cC (yh h2) O<|cZ<|cE<|cE<|cE<|cA<|cA<|cA<|U 448 O<|ae<|rS<|cM<|cP (dH (aT O) aI)<|U 4194752 O<|gc O q (fun hb3 q=>?_) fun hb3 q=>?_
 ·refine rS<|cM<|cP (bL fA 72 7)<|cA<|U 48 O ?_
  cases q;exact an (dZ (jW (t:=4) O) (eM O O (bg.tmp O O (bg.tmp O O bg.nil))))
 ·refine ah<|ax<|rS<|cP (bL fA 72 7)<|U 704 O<|ae ?_
  obtain⟨x4,h5,q⟩:=aN q;refine rS<|cM<|cM<|cC (Kr h5) O<|cP (abL Rs (aT O))<|cF [9,27] O<|ai<|agM (it:=27) (fun(p:((Int×Int×Int)×ad3)×V3)=>(iH p.1,ay p.2)) (σ:=(att (((Int×Int×Int)×ad3)×av5))) (fun s6=>[(9,.buf 72 7 (lT fA s6))]) (DM q) (sS [27,9] O) (fun seen s6 hT hE=>?_)
  refine ae<|ajS O (sS [9] O) O O (fun j hj hn=>ax ?_) (fun hE2=>ax ?_)
  ·obtain⟨x7,hx⟩:=arp hj;obtain⟨z8,q⟩:=hT j x7 hx hn;have hf:=q;refine ae (Gt O (fun _=>ah (ax ?_)) (fun h=>by cases h));refine ai<|rS<|cP (abQ (k:=iH x7.1) (e:=ay x7.2) O (by simp[hx]))<|cE<|cE<|cT Qt<|cT bK<|cs O O O RG<|cs O O O m<|U 134221312 O<|ae ?_
   obtain⟨x9,lA,q⟩:=aN q;refine rS<|cU O m<|cC (Bm lA) O<|U 17314090496 O<|gc O q (fun JB q=>?_) fun JB q=>?_
   ·cases q;refine aR (fun a w H hs=>?_)
    try unfold Exit.then
    try unfold Exit.inBlock
    try simp only[if_true]
    exact⟨_,_,_,hx,hn,hf,H,hs.weaken (ye.sub (sS [27,9] O))⟩
   ·refine ah (ax ?_);obtain⟨iY,Q,q⟩:=aN q;refine rS<|cU O m<|cC (AN Q) O<|cZ<|cE<|cE<|cT fS<|cs O O O C<|cA<|U 134231552 O<|ae<|rS<|cM<|cP (dH (aT O) aI)<|U 2199157487104 O<|gc O q (fun Jz q=>?_) fun Jz q=>?_
    ·refine rS<|cM<|cP (bL fA 72 7)<|cA<|U 48 O ?_
     cases q
    ·refine ah (ax ?_);obtain⟨jH,S,q⟩:=aN q;cases q;refine rK<|cQ<|o0 0 O adh O vJ<|o0 1 O adg O gp<|cP (bB qo QJ O)<|cU O C<|cP (bB Vj abb O)<|cP (bS Vj ank O O)<|cS (eC acm anp (dY O) O O (aT O) S (gk O))<|cS (bX O O (gk O) _ (Or.inl O))<|cF [9,27] O (fun a w H hs=>?_)
     try unfold Exit.then
     try unfold Exit.inBlock
     try simp only[if_true]
     exact⟨_,_,_,hx,hn,hf,H,hs.weaken (ye.sub (sS [27,9] O))⟩
  ·have q:=hE hE2;refine ae (Gt O (fun h=>by cases h) (fun _=>?_));refine aR (ax ?_);obtain⟨jN,V,q⟩:=aN q;refine rS<|cQ<|cS (xf (xs:=[]) (ys:=[.func 67]) (abn V) (gP.same O) O O O aU.nil (aU.cons (Arg.fn fun _ _ h=>F2 (D:=DR.strict) h) aU.nil) (gk O) O)<|cF [9] O<|rS<|cQ<|cG (jW (t:=9) O)<|cG (kS (s:=55) O O)<|cA<|cI<|U 48 O ?_
   cases q;exact an (r2 O)
def qk{a0 r}(q:ka a0=some r):c8 72 [(TL (TL (TL az))) a0] [(TL (TL az)) r]:=by
 refine dR func72 O aH<| ?_
 refine rS<|cP (bL (TL az) 75 1)<|U 1 O ?_
 refine rS<|cI<|U 9 O ?_
 refine ae<|rS<|cM<|cJ XY O<|cN<|U 3593 O ?_
 refine ai<|jT [0,9,10] O (σ:=Int×Int) (fun s1=>[(3,.val (TiZ s1.1)),(11,.val (TiZ s1.2))]) q O (fun k2 s1 q=>?_)
 refine rS<|cL O O<|U 7689 O ?_
 refine ae<|gc O q (fun hb3 q=>?_) fun hb3 q=>?_
 ·refine ah<|ax<|ae<|ai ?_
  obtain⟨x4,h5,q⟩:=aN q;refine rS<|cP (oX abh (dY O) O O h5)<|cR O ahw<|cA<|U 3625 O ?_
  obtain⟨x6,h7,q⟩:=aN q;refine rS<|cM<|cM<|cJ oN O<|cP (bH (aT O) (aT O) h7)<|cO (oA O)<|U 3593 O ?_
  refine rS<|cM<|cP (dJ (aT O) aI)<|U 1052169 O ?_
  refine gc O q (fun vE q=>?_) fun vE q=>?_
  ·cases q
  ·refine ah (ax ?_);obtain⟨x9,lA,q⟩:=aN q;exact rK<|cH O lA<|cO (oM O)<|U 3593 O (cm q O)
 ·refine aR (ax ?_);obtain⟨gT,M,q⟩:=aN q;refine rS<|cM<|cP (gZ (aiy M) (aU.cons Arg.nn (aU.cons (aT O) aU.nil)))<|cS (bX O O (gk O) _ (Or.inl O))<|U 65 O ?_
  refine ae<|rS<|cM<|cJ XY O<|cN<|U 234881088 O ?_
  refine ai<|jT [25,26] O (σ:=(att (att ((V3×Rat)×(att V3))))×Int) (fun K2=>[(6,.buf 75 1 (lT (TL az) K2.1)),(27,.val (TiZ K2.2))]) q O (fun k14 K2 q=>?_)
  refine rS<|cL O O<|U 503316544 O ?_
  refine ae<|gc O q (fun Ws q=>?_) fun Ws q=>?_
  ·refine ah<|ax<|ae<|ai ?_
   obtain⟨jG,W,q⟩:=aN q;refine rS<|cP (oX abh (dY O) O O W)<|cR O ahw<|cA<|U 234881344 O ?_
   obtain⟨kZ,uo,q⟩:=aN q;refine rK<|cQ<|cM<|cS (eC oN Qn (dY O) O O (aT O) uo (gk O))<|cS (bX O O (gk O) _ (Or.inl O))<|U 234881088 O (ax ?_)
   obtain⟨mC,h21,q⟩:=aN q;exact rK<|cH O h21<|cO (oM O)<|U 234881088 O (cm q O)
  ·refine aR<|ax<|rS<|cQ<|cG (jW (t:=6) O)<|cG (kS (s:=35) O O)<|cA<|U 4 O ?_
   cases q;exact an (r1 O)
def Ov{a0 a1 r}(q:A6 a0 a1=some r):c8 24 [(TL (TL aq)) a0,(TL (TL aq)) a1] [(TL (TL aq)) r.1,TiZ r.2]:=
 dR func24 O aH<|rS<|cP (aC (Arg.nn (f:=(TL aq))))<|cI<|U 3 O<|bn q fun x1 h2 q=>rS<|cM<|cM<|cC (yh h2) O<|cZ<|cE<|cE<|cE<|cA<|cA<|cA<|U 449 O<|ae<|rS<|cM<|cP (dH (aT O) aI)<|U 131521 O<|gc O q (fun hb3 q=>rS<|cM<|cP (aC (Arg.nn (f:=(TL aq))))<|cA<|U 48 O<|by cases q;exact an (dZ (Jn (t:=4) O) (eM O O (bg.tmp O O (bg.tmp O O bg.nil))))) fun hb3 q=>ah (ax (wZ q fun x4 h5 x6 h7 x8 h9 q=>rS<|cM<|cM<|cM<|cC (FC h5) O<|cP (bS ah5 akh O O)<|cC (qk h7) O<|cC (sT h9) O<|cE<|cE<|cA<|cA<|U 48 O<|by cases q;exact an (r2 O)))
def IZ{a0 r}(q:BH a0=some r):c8 145 [(TL TS) a0] [TiZ r]:=
 dR func145 O aH<|rS<|cI<|U 1 O<|ae<|rS<|cM<|cJ af9 O<|cN<|U 448 O<|ai<|jT [6,7] O (σ:=Int) (fun s1=>[(8,.val (TiZ s1))]) q O (fun k2 s1 q=>by exact rS<|cL O O<|U 960 O<|ae<|gc O q (fun hb3 q=>ah<|ax<|ae<|ai<|bn q fun x4 h5 q=>rS<|cP (oX ais (dY O) O O h5)<|cR O gp<|cA<|U 464 O<|bn q fun x6 h7 q=>rS<|cM<|cC (Fz h7) O<|cA<|U 480 O<|rS<|cM<|cP (dH (aT O) aI)<|U 33248 O<|gc O q (fun vE q=>rS<|cM<|cA<|U 4 O<|an (fz q O)) fun vE q=>ah (ax (bn q fun x9 lA q=>by exact rK<|cH O lA<|cO (oM O)<|U 448 O (cm q O)))) fun hb3 q=>aR<|ax<|rS<|cI<|U 4 O<|an (fz q O))
def vL{a0 r}(q:rl a0=some r):c8 73 [bb a0] [TiZ r]:=
 dR func73 O aH<|rS<|cX<|cI<|U 2 O<|bn q fun x1 h2 q=>rS<|cG (Ca (t:=1) O)<|cP (ZI gG (uc O (uc O (uc O un))) O (aT O))<|cC (IZ h2) O<|cA<|U 4 O<|an (fz q O)
def F1{a0 r}(q:Cj a0=some r):c8 74 [bb a0] [ay r]:=
 dR func74 O aH<|rS<|cX<|cT bK<|U 6 O<|wZ q fun x1 h2 x3 h4 x5 h6 q=>gE 11 mixed<|dP [1] O (iO O gG O)<|dP [3,1] O (oP 0 O O gp)<|dP [4] O (oC (vO h2) O)<|dP [1] O (iO O gG O)<|dP [6,1] O (oP 1 O O gp)<|dP [7] O (oC (vO h4) O)<|dP [1] O (iO O gG O)<|dP [9,1] O (oP 2 O O gp)<|dP [10] O (oC (vO h6) O)<|dP [5,8,11] O (bA zR Z O O)<|dS [2,12] O (ds O O O m)<|dN<|dE [2] O aH<|cD<|an (qV q O m)
def Bq{a0 a1 r}(q:oE a0 a1=some r):c8 25 [(TL (TL aq)) a0,bb a1] [TiZ r.1,TiZ r.2]:=
 dR func25 O aH<|rS<|cX<|cI<|cI<|U 9 O<|agL O<|bn q fun x1 h2 q=>rS<|cM<|cC (lS h2) O<|cZ<|cE<|cE<|cA<|cA<|U 200 O<|ae<|kM q fun x3 h4 x5 h6 q=>rS<|cM<|cU O C<|cC (vL h4) O<|cP (bS L4 N1 O O)<|cC (wA h6) O<|cO (oA O)<|U 200 O<|rS<|cM<|cP (dH (aT O) aI)<|cF [3,6,7,32] O<|gc O q (fun Bc q=>rS<|cM<|cI<|cA<|U 48 O<|by cases q;exact an (r2 O)) fun Bc q=>ah (ax (bn q fun x8 h9 q=>rS<|cU O C<|cC (F1 h9) O<|cT bK<|cs O O O m<|U 320 O<|bn q fun iI nA q=>rS<|cC (Pp nA) O<|cT dm<|cs O O O d<|cB<|U 1856 O<|ae<|agN<|ax<|ae<|rS<|cM<|cJ oN O<|cN<|U 962072676096 O<|ai<|jT [8,37,38] O (σ:=Rat×Bool×Int) (fun Di=>[(9,.own 95 (cd Di.1)),(10,.val (bj Di.2.1)),(39,.val (TiZ Di.2.2))]) q O (fun k13 Di q=>by exact rS<|cL O O<|U 2061584303872 O<|ae<|gc O q (fun Jz q=>ah<|ax<|ae<|xu [8,37,38,39] O (α:=Rat×Bool) (fun Of=>[(9,.own 95 (cd Of.1)),(10,.val (bj Of.2))]) q (fun k16 q=>by exact ai<|bn q fun jN V q=>rS<|cP (oX Bv (dY O) O O V)<|cR O C5<|cA<|U 962072680192 O<|rS<|cP (bL bI 111 16)<|U 962072688384 O<|ae<|bn q fun kq xt q=>rS<|cM<|cC (mP xt) O<|cJ rC O<|cN<|U 124107374995200 O<|ai<|jT [8,9,10,37,38,39,44,45] O (σ:=(att (V3×Rat))×Int) (fun Jd=>[(13,.buf 111 16 (lT bI Jd.1)),(46,.val (TiZ Jd.2))]) q O (fun ZX Jd q=>by exact rS<|cL O O<|U 264844863350528 O<|ae<|gc O q (fun Wr q=>ah<|ax<|ae<|xu [8,9,10,37,38,39,44,45,46] O (α:=(att (V3×Rat))) (fun s24=>[(13,.buf 111 16 (lT bI s24))]) q (fun k25 q=>by exact ai<|bn q fun Bj JD q=>rS<|cP (oX F8 (dY O) O O JD)<|cR O gq<|cT iZ<|cs O O O gq<|U 124107375027968 O<|kM q fun yE Gq yg Iw q=>rS<|cU O gq<|cU O m<|cC (oh Gq) O<|cC (xB Iw) O<|cA<|U 124107375093504 O<|ai<|rS<|cM<|cP (b9 (aT O) aI)<|cA<|U 18138505884575488 O<|gc O q (fun aqs q=>aR (cm q O)) fun aqs q=>rS<|cM<|cP (cw (aT O) aI)<|cA<|U 144239295450883840 O<|gc O q (fun ajE q=>kM q fun F0 P6 BV Wv q=>gD 8 mixed<|dP [13] O (eX)<|dQ 0 O kX O m<|dP [] O (oC (Pp P6) O)<|dP [62,63] O (bB w7 zY O)<|dP [64] O (bS iZ JH O O)<|dG [60] [60,65,13] O (BN rC JN (dY O) O O (aT O) Wv (gk O))<|dG [] [66] O (CG O O (gk O) _ (Or.inl O))<|dN<|dE [8,9,10,13,37,38,39,44,45,46] O aH<|cD (cm q O)) fun ajE q=>ah (cm q O)) (fun s24 q=>by exact ax<|bn q fun KW Wu q=>by exact rK<|cH O Wu<|cO (oM O)<|U 124107374995200 O (cm q O))) fun Wr q=>aR<|ax<|rS<|cO (aC aB)<|U 962072684288 O<|wZ q fun Va h41 Vm h43 x44 OZ q=>rS<|cC (Pp h41) O<|cC (GO h43) O<|cQ<|cG (jW (t:=13) O)<|cG (kS (s:=71) O O)<|cC (jU OZ) O<|cZ<|cE<|cE<|cA<|cA<|U 962072807168 O<|bn q fun L5 Sp q=>rS<|cM<|cC (w9 Sp) O<|cZ<|cE<|cE<|cT dm<|cT bK<|cs O O O d<|cs O O O m<|U 962073200384 O<|bn q fun JS h49 q=>by exact rK<|cU O d<|cU O d<|cC (FJ h49) O<|cs O O O d<|U 962072676096 O (cm q O))) (fun Of q=>by exact ax<|bn q fun KV h51 q=>by exact rK<|cH O h51<|cO (oM O)<|U 962072676096 O (cm q O))) fun Jz q=>aR<|ax<|ae<|ai<|rS<|cM<|cP (fT (aT O))<|cA<|cF [9,84] O<|gc O q (fun aqk q=>rS<|cI<|cI<|U 48 O<|by cases q;exact an (r2 O)) fun aqk q=>kM q fun IP Wt Pe h56 q=>gE 4 mixed<|dP [9] O (ak O d)<|dP [] O (oC (Pp Wt) O)<|dP [88,89] O (oC (QQ h56) O)<|dP [90] O (oA O)<|dN<|dE [87] O aH<|cD<|gc O q (fun ajA q=>rS<|cI<|cI<|U 48 O<|by cases q;exact an (r2 O)) fun ajA q=>ah<|ax<|rS<|cI<|cI<|U 48 O<|by cases q;exact an (r2 O))))
def o4{a0 r}(q:kj a0=some r):c8 263 [(TL TiZ) a0] [(TL TiZ) r]:=
 dR func263 O aH<|rS<|cP (aC (Arg.nn (f:=TiZ)))<|U 1 O<|ae<|ai<|gl (σ:=(att Int)) (fun s1=>[(0,.val (TL TiZ s1))]) q O (fun k2 s1 q=>by exact ae<|kT q fun x3 h4 q=>kT q fun x5 h6 q=>rS<|cM<|cJ dC O<|cP (b9 (aT O) aI)<|cM<|gV O O (ov 0 O on) (fun vK=>oM O)<|gV O O (ov 0 O on) (fun hg2=>oM O)<|gV O O (oo 8 O id on) (fun Y=>mS dC (aT O))<|gV O O (oo 9 O id on) (fun zC=>bF (aT O) aI (h4 zC))<|gV O O (oo 7 O id (oo 10 O id on)) (fun CD=>iQ fD (dY O) (aT O) (aT O) (h6 CD))<|gV O O (oo 11 O id on) (fun Dj=>aK (aT O) B)<|gV O O (oo 12 O id on) (fun Nz=>cw (aT O) aI)<|cP (dD (aT O) O jZ)<|cF [0,14] O<|gc O q (fun Bc q=>ah<|ax<|ai<|kM q fun x8 h9 iI nA q=>by exact rK<|cM<|cM<|cJ dC O<|cP (bF (aT O) aI h9)<|cP (tP fD (dY O) (aT O) Lo.none (Lo.some (aT O)) nA)<|cO (oA O)<|U 1 O (cm q O)) fun Bc q=>aR<|ax<|rS<|cM<|cA<|U 4 O<|an (fz q O))
def jx{a0 a1 r}(q:eE a0 a1=some r):c8 223 [bj a0,(TL TiZ) a1] [bk r]:=
 dR func223 O aH<|rS<|cT kc<|U 19 O<|bn q fun x1 h2 q=>rS<|cM<|cC (o4 h2) O<|cO (oA O)<|U 19 O<|rS<|cM<|cM<|gV O O (ov 1 O on) (fun vK=>oM O)<|gV O O (oo 9 O id on) (fun hg2=>mS dC (aT O))<|gV O O (oo 10 O id on) (fun Y=>b9 (aT O) aI)<|cP (dD (aT O) O jZ)<|cM<|cP (bB kc ae1 O)<|cs O O O dW<|cF [4] O<|an (qV q O dW)
def wC{a0 r}(q:lI a0=some r):c8 158 [TiZ a0] [bk r]:=
 dR func158 O aH<|rS<|cT kc<|U 5 O<|rS<|cP (bL TiZ 3 1)<|U 13 O<|rS<|cM<|cP (dJ (aT O) aI)<|cA<|U 29 O<|ae<|ai<|jT [2,4] O (σ:=Int×att Int) (fun s1=>[(0,.val (TiZ s1.1)),(3,.buf 3 1 (lT TiZ s1.2))]) q O (fun k2 s1 q=>by exact ae<|rS<|cM<|cP (dH (aT O) aI)<|U 541 O<|gc O q (fun hb3 q=>ah<|ax<|ai<|bn q fun x4 h5 q=>rS<|cM<|cP (n5 (aT O) aI h5)<|cA<|U 61 O<|ae<|rS<|cM<|cP (dJ (aT O) aI)<|U 8253 O<|xu [0,2,3,4] O (α:=Int) (fun s6=>[(5,.val (TiZ s6))]) q (fun k7 q=>by exact gc O q (fun vE q=>bn q fun x9 lA q=>by exact rK<|cM<|cP (bF aI (aT O) lA)<|cO (oA O)<|U 61 O (cm q O)) fun vE q=>ah (cm q O)) (fun s6 q=>by exact ax<|bn q fun gT M q=>rS<|cQ<|cM<|cP (bS xR vt O O)<|cS (eC dC Eo (dY O) O O (aT O) M (gk O))<|cS (bX O O (gk O) _ (Or.inl O))<|U 29 O<|bn q fun j9 P q=>by exact rK<|cM<|cP (sX (aT O) aI P)<|cO (oA O)<|U 29 O (cm q O))) fun hb3 q=>aR (ax (bn q fun jH S q=>rS<|cM<|cQ<|cG (jW (t:=3) O)<|cG (kS (s:=23) O O)<|cC (jx S) O<|cs O O O dW<|U 4 O<|an (qV q O dW))))
def sU{a0 a1 r}(q:fI a0 a1=some r):c8 222 [TiZ a0,TiZ a1] [TS r]:=
 dR func222 O aH<|rS<|cP (aC (Arg.s O))<|U 3 O<|rS<|cP (aC (Arg.s O))<|U 35 O<|ae<|ai<|gl (σ:=Int×ad3) (fun s1=>[(0,.val (TiZ s1.1)),(1,.val (TiZ a1)),(5,.val (TS s1.2))]) q O (fun k2 s1 q=>by exact ae<|rS<|cM<|cP (b9 (aT O) aI)<|cM<|gV O O (ov 5 O on) (fun vK=>oM O)<|gV O O (oo 9 O id on) (fun hg2=>fk X (aT O))<|gV O O (ov 1 O on) (fun Y=>oM O)<|gV O O (oo 10 O id (oo 11 O id on)) (fun zC=>dJ (aT O) (aT O))<|cP (gj (aT O) O j8)<|U 8227 O<|gc O q (fun hb3 q=>ah<|ax<|ai<|UX q fun x4 h5 x6 h7 x8 h9 iI nA iY Q q=>rS<|cM<|cP (n5 (aT O) aI h5)<|cM<|cP (n5 (aT O) aI h7)<|cH O h9<|cP (fQ X (Arg.s O) (Lo.some (aT O)) (Lo.some (aT O)) nA)<|cM<|cP (sY (aT O) (aT O) Q)<|cO (oA O)<|U 35 O<|bn q fun jR T q=>by exact rK<|cM<|cP (sX (aT O) aI T)<|cO (oA O)<|U 35 O (cm q O)) fun hb3 q=>aR<|ax<|rS<|cM<|cA<|cF [4] O<|an (fz q O))
def BZ{a0 r}(q:mZ a0=some r):c8 157 [bk a0] [TS r]:=
 dR func157 O aH<|rS<|cX<|cP (aC (Arg.s O))<|U 2 O<|ae<|rS<|o0 1 O iP O mG<|cJ dC O<|cP (cw (aT O) aI)<|U 258 O<|gc O q (fun hb1 q=>rS<|cP (aC (Arg.s O))<|U 4 O<|an (fz q O)) fun hb1 q=>ah (ax (wZ q fun x2 h3 x4 h5 x6 h7 q=>rS<|o0 1 O iP O mG<|o0 1 O iP O mG<|cJ dC O<|cP (bF (aT O) aI h3)<|cP (oX fD (dY O) O O h5)<|cR O B<|cC (sU h7) O<|cA<|U 10 O<|ae<|bn q fun x8 h9 q=>rS<|o0 1 O iP O mG<|cJ dC O<|cP (bF (aT O) aI h9)<|cA<|U 26 O<|ai<|jT [1] O (σ:=ad3×Int) (fun um=>[(3,.val (TS um.1)),(4,.val (TiZ um.2))]) q O (fun Si um q=>by exact ae<|rS<|cM<|cP (nD (aT O) aI)<|U 8388634 O<|gc O q (fun JA q=>ah<|ax<|ae<|ai<|wZ q fun j9 P jH S jN V q=>by exact rK<|cM<|o0 1 O iP O mG<|cM<|cP (oX fD (dY O) O O P)<|cR O B<|cC (sU S) O<|cP (sY (aT O) (aT O) V)<|cO (oA O)<|U 26 O (ax (bn q fun kq xt q=>by exact rK<|cM<|cP (bF (aT O) aI xt)<|cO (oA O)<|U 26 O (cm q O)))) fun JA q=>aR<|ax<|ae<|rS<|o0 0 O qP O Nn<|cF [3,35] O<|gc O q (fun ND q=>bn q fun uk Db q=>rS<|cM<|cP (sY (Arg.s O) (aT O) Db)<|cA<|U 4 O<|an (fz q O)) fun ND q=>ah<|ax<|rS<|cM<|cA<|U 4 O<|an (fz q O))))
def xA{a0 r}(q:mO a0=some r):c8 85 [TiZ a0] [TS r]:=
 dR func85 O aH<|rS<|cP (aC (Arg.s O))<|U 1 O<|kM q fun x1 h2 x3 h4 q=>rS<|cM<|cC (wC h2) O<|cC (BZ h4) O<|cA<|U 4 O<|an (fz q O)
def mQ{a0 a1 a2 r}(q:kn a0 a1 a2=some r):c8 27 [TiZ a0,TiZ a1,TiZ a2] [bb r]:=
 dR func27 O aH<|rS<|cT fS<|U 71 O<|wZ q fun x1 h2 x3 h4 x5 h6 q=>rS<|cM<|cC (xA h2) O<|cM<|cC (xA h4) O<|cM<|cC (xA h6) O<|cP (bA fS gG O O)<|cs O O O C<|cF [6] O<|an (qV q O C)
end
end Trn
