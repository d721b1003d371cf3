/-
  Part of the proof of SolidForms.
-/
import Derived.Test.YtflhfjdapojoiaaGreatDoorHb
set_option maxRecDepth 100000
set_option maxHeartbeats 20000000
set_option linter.all false
open Go Go.RowKit Go.Proofs Go.Proofs.Tryz
namespace Trn
section
variable[D:DR]
def abh{a0 a1 a2 r}(q:aM a0 a1 a2=some r):AN 5 [(TL Ah) a0,TiZ a1,TiZ a2] [Ar r]:=
 AP func5 O A4<|rS<|cB<|U 7 O<|A7<|rS<|cM<|cJ Ko O<|cM<|cP (C4 (aT O) (aT O))<|U 2053 O<|gc O q (λ_ q=>rS<|cB<|cF [6] O<|AA (AV q O)) λ_ q=>AD<|A5<|A7<|rS<|cI<|U 133 O<|AI<|Av [0,2] O (σ:=Int) (λs2=>[(7,.val (TiZ s2))]) q O (λ_ s2 q=>by exact A7<|rS<|cM<|cM<|cJ Ko O<|cL O O<|U 32901 O<|gc O q (λ_ q=>AD<|A5<|A7<|AI<|AB q λ_ h6 q=>rS<|cM<|cM<|cP (oX QR (AM O) O O h6)<|cP (Lp (aT O) O (BF.agg (i:=1) O O) Ka)<|cR O Z<|cP (EL ND (aT O))<|cM<|cP (C4 (aT O) (aT O))<|U 33554565 O<|gc O q (λ_ q=>rS<|cB<|cF [6] O<|AA (AV q O)) λ_ q=>AD (A5 (AB q λ_ h9 q=>by exact rK<|cM<|cH O h9<|cO (oA O)<|U 133 O (cm q O)))) λ_ q=>Ai<|A5<|rS<|cB<|cF [6] O<|AA (AV q O))
def Mu{a0 r}(q:Jr a0=some r):AN 115 [TS a0] [TiZ r]:=
 AP func115 O A4<|rS<|cI<|U 1 O<|A7<|rS<|cM<|cP (PH (aT O) (Arg.s O))<|U 17 O<|gc O q (λ_ q=>rS<|cI<|U 4 O<|AA (AV q O)) λ_ q=>AD<|A5<|A7<|BL q λ_ h3 q=>rS<|cM<|cP (EL ND (aT O))<|cP (C4 (aT O) aI)<|cM<|gV O O (ov 0 O on) (λ_=>oM O)<|gV O O (oo 9 O id on) (λhg2=>MS ND (aT O) aI (h3 hg2))<|gV O O (oo 10 O id on) (λ_=>CW (aT O) aI)<|cP (Cd (aT O) O Ch)<|cF [12] O<|gc O q (λ_ q=>rS<|cI<|U 4 O<|AA (AV q O)) λ_ q=>AD<|A5<|rS<|cI<|U 4 O<|AA (AV q O)
def bg{a0 r}(q:Su a0=some r):AN 47 [TS a0] [TS r]:=
 AP func47 O A4<|rS<|cP (B9 (Arg.s O))<|U 1 O<|A7<|AB q λ_ h2 q=>rS<|cM<|cC (Mu h2) O<|cP (CV (aT O) aI)<|U 33 O<|gc O q (λ_ q=>AB q λ_ h5 q=>rS<|cM<|cP (Gr ND (aT O) (Lo.some aI) Lo.none h5)<|cA<|U 4 O<|AA (AV q O)) λ_ q=>AD<|A5<|A7<|AB q λ_ h7 q=>rS<|cM<|cC (Mu h7) O<|cP (CW (aT O) aI)<|U 1025 O<|gc O q (λ_ q=>rS<|cM<|cA<|U 4 O<|AA (AV q O)) λ_ q=>AD (A5 (AB q λ_ BJ q=>rS<|cM<|cP (N7 (Arg.s O) (aT O) BJ)<|cA<|U 4 O<|AA (AV q O)))
def Ln{a0 a1 a2 a3 r}(q:KV a0 a1 a2 a3=some r):AN 21 [TiZ a0,TiZ a1,TiZ a2,TS a3] [Ah r]:=by
 unfold KV at q;exact AP func21 O A4<|rS<|cT Iw<|U 271 O<|rS<|cM<|cM<|cM<|cP (bA gN GC O O)<|cM<|cP (bB Iw gQ O)<|cs O O O DT<|cF [8] O<|AA (C1 q O DT)
def Qy{a0 a1 a2 a3 a4 a5 r}(q:Pm a0 a1 a2 a3 a4 a5=some r):AN 16 [TS a0,TS a1,TS a2,TS a3,TS a4,TS a5] [(TL Ah) r]:=
 AP func16 O A4<|rS<|cP (B9 (Arg.nn (f:=Ah)))<|U 63 O<|Iq q λ_ h2 x3 h4 _ h6 x7 h8 _ BJ Ax Bm q=>Cu q λBf M BV S BW W q=>rS<|cM<|cC (bg h2) O<|cC (Ln h4) O<|cM<|cC (bg h6) O<|cC (Ln h8) O<|cM<|cC (bg BJ) O<|cC (Ln Bm) O<|cM<|cC (Ln M) O<|cM<|cC (Ln S) O<|cM<|cC (Ln W) O<|cP (K3 (s':= .val (TL Ah ([x3,x7,Ax,Bf,BV,BW]:BdZ))) (bS Iw pj O O) O)<|cA<|cF [12] O<|AA (AV q O)
def Xv{a0 r}(q:Nl a0=some r):AN 119 [TiZ a0] [CD r]:=by
 unfold Nl at q;exact AP func119 O A4<|rS<|cT EN<|U 5 O<|rS<|cM<|cP (bB EN MV O)<|cs O O O g<|U 4 O<|AA (C1 q O g)
def l7{a0 r}(q:Ur a0=some r):AN 211 [TiZ a0] [(TI .u64) r]:=
 AP func211 O A4<|rS<|cI<|U 1 O<|A7<|rS<|cM<|cP (CV (aT O) aI)<|U 17 O<|gc O q (λ_ q=>rS<|cM<|cP (zG (aT O))<|cP (RH SA Vh (aT O))<|cA<|U 4 O<|AA (AV q O)) λ_ q=>AD<|A5<|rS<|cM<|cP (RH SA Vh (aT O))<|cA<|U 4 O<|AA (AV q O)
def Pf{a0 r}(q:Mo a0=some r):AN 212 [CD a0] [Ar r.1,(TL (TI .u64)) r.2]:=
 AP func212 O A4<|rS<|cX<|cB<|cP (B9 (Arg.nn (f:=(TI .u64))))<|U 2 O<|A7<|AI<|rS<|Bh 1 O LH O LR<|cP (amL Cz (aT O))<|cA<|U 18 O<|gc O q (λ_ q=>gE 7 mixed<|dQ 0 O Fb O B<|dP [9] O (CV (aT O) aI)<|dQ 1 O LH O LR<|dP [10] O (oA O)<|dP [12] O (oA O)<|dN<|dE [2,3] O A4<|cD<|by cases q;exact AA (E5 (GK (t:=3) O) (C6 O O (AQ.tmp O O (AQ.tmp O O AQ.nil))))) λ_ q=>rS<|Bh 0 O Fb O B<|cP (CW (aT O) aI)<|cA<|U 8194 O<|gc O q (λ_ q=>rS<|cB<|cP (B9 (Arg.nn (f:=(TI .u64))))<|U 12 O<|by cases q;exact AA (E5 (GK (t:=3) O) (C6 O O (AQ.tmp O O (AQ.tmp O O AQ.nil))))) λ_ q=>AD (A5 (AB q λx3 h4 q=>gE 9 mixed<|dQ 0 O Fb O B<|dP [18] O (CV (aT O) aI)<|dQ 0 O Fb O B<|dP [21] O (oC (l7 h4) O)<|dP [22] O (K3 (s':= .val (TL (TI .u64) ([x3]:A3 Int))) (bS Px pf O O) O)<|dP [19] O (oA O)<|dP [23] O (oA O)<|dN<|dE [2,3] O A4<|cD<|by cases q;exact AA (r2 O)))
def Sv{a0 a1 r}(q:Oj a0 a1=some r):AN 213 [Ar a0,(TL (TI .u64)) a1] [CD r]:=
 AP func213 O A4<|rS<|cT EN<|U 19 O<|A7<|AI<|rS<|cM<|cJ Cz O<|cP (CW (aT O) aI)<|cA<|U 51 O<|gc O q (λ_ q=>rS<|cP (bB EN MV O)<|cs O O O g<|cF [4] O<|AA (C1 q O g)) λ_ q=>BL q λ_ h3 q=>rS<|cM<|cJ Cz O<|cP (CW (aT O) aI)<|cM<|gV O O (ov 1 O on) (λ_=>oM O)<|gV O O (oo 15 O id on) (λhg2=>Eu CY (AM O) (aT O) aI (h3 hg2))<|gV O O (oo 16 O id on) (λ_=>BY (aT O) Cn)<|gV O O (oo 17 O id on) (λ_=>QH (aT O) aI)<|cP (Cd (aT O) O Ch)<|cM<|gV O O (ov 0 O on) (λ_=>oM O)<|cP (Cd (aT O) O Ch)<|cA<|U 1043 O<|gc O q (λ_ q=>BE q λ_ h6 _ h8 q=>rS<|cM<|cP (Eu CY (AM O) (aT O) aI h6)<|cR O Cn<|cP (RH Vh SA (aT O))<|cP (nu (aT O) h8)<|cP (bB EN MV O)<|cs O O O g<|cF [4] O<|AA (C1 q O g)) λ_ q=>BL q λ_ BJ q=>rS<|cM<|cJ Cz O<|cP (CW (aT O) aI)<|cM<|gV O O (ov 1 O on) (λ_=>oM O)<|gV O O (oo 34 O id on) (λOM=>Eu CY (AM O) (aT O) aI (BJ OM))<|gV O O (oo 35 O id on) (λ_=>BY (aT O) Cn)<|gV O O (oo 36 O id on) (λ_=>QH (aT O) aI)<|cP (Cd (aT O) O Ch)<|cA<|cF [0,1,4,29] O<|gc O q (λ_ q=>AB q λ_ P q=>rS<|cM<|cP (Eu CY (AM O) (aT O) aI P)<|cR O Cn<|cP (RH Vh SA (aT O))<|cP (bB EN MV O)<|cs O O O g<|cF [4] O<|AA (C1 q O g)) λ_ q=>rS<|cM<|cA<|cF [1,4,44] O<|gc O q (λ_ q=>gcI q λQ q=>rS<|cM<|cP (dq EN MV (Dp.cons (i:=0) aI O O (Dp.cons (i:=1) ((aT O).imp (py (not_true Q))) O O Dp.nil)))<|cs O O O g<|cF [4] O<|AA (C1 q O g)) λ_ q=>AD (A5 (gcI q λS q=>rS<|cM<|cP (dq EN MV (Dp.cons (i:=0) aI O O (Dp.cons (i:=1) ((aT O).imp (py (not_true S))) O O Dp.nil)))<|cs O O O g<|cF [4] O<|AA (C1 q O g)))
def Qq{a0 r}(q:Nh a0=some r):AN 185 [CD a0] [CD r]:=
 AP func185 O A4<|rS<|cX<|cT EN<|U 6 O<|A7<|rS<|Bh 1 O LH O LR<|cP (M6 Cz (aT O))<|cM<|gV O O (ov 1 O on) (λ_=>FH O Fb)<|gV O O (oo 9 O id (ov 1 O on)) (λ_=>oP 0 O O B)<|gV O O (oo 10 O id on) (λ_=>Cx (aT O) aI)<|cP (Cd (aT O) O Ch)<|U 4102 O<|gc O q (λ_ q=>AB q λ_ h3 q=>rS<|Bh 0 O Fb O B<|cP (nu (aT O) h3)<|cP (bB EN MV O)<|cs O O O g<|U 4 O<|AA (C1 q O g)) λ_ q=>AD (A5 (AB q λ_ h5 q=>rS<|cU O g<|cC (Pf h5) O<|cZ<|cE<|cE<|cA<|cA<|U 28 O<|AB q λ_ h7 q=>rS<|cM<|cP (DH (aT O))<|cM<|cC (Sv h7) O<|cs O O O g<|U 4 O<|AA (C1 q O g)))
def kK{a0 r}(q:XP a0=some r):AN 121 [CD a0] [CD r]:=
 AP func121 O A4<|rS<|cX<|cT EN<|U 6 O<|A7<|rS<|Bh 0 O Fb O B<|cP (CV (aT O) aI)<|U 38 O<|gc O q (λ_ q=>AB q λ_ h3 q=>rS<|cU O g<|cC (Qq h3) O<|cs O O O g<|U 4 O<|AA (C1 q O g)) λ_ q=>AD<|A5<|rS<|cU O g<|cs O O O g<|U 4 O<|AA (C1 q O g)
def UN{a0 r}(q:Pj a0=some r):AN 125 [CD a0] [TiZ r]:=by
 unfold Pj at q;exact AP func125 O A4<|rS<|cX<|cI<|U 2 O<|rS<|Bh 0 O Fb O B<|cP (xv aI (aT O))<|cP (eh aI (aT O))<|cA<|U 4 O<|AA (AV q O)
def rF{a0 a1 r}(q:Wp a0 a1=some r):AN 217 [(TL (TI .u64)) a0,(TL (TI .u64)) a1] [TiZ r]:=
 AP func217 O A4<|rS<|cI<|U 3 O<|A7<|rS<|cM<|cJ Cz O<|cM<|cJ Cz O<|cP (Cx (aT O) (aT O))<|U 1027 O<|gc O q (λ_ q=>A7<|rS<|cM<|cJ Cz O<|cM<|cJ Cz O<|cL O O<|cF [15] O<|gc O q (λ_ q=>rS<|cI<|cF [4] O<|AA (AV q O)) λ_ q=>AD<|A5<|rS<|cI<|cF [4] O<|AA (AV q O)) λ_ q=>AD<|A5<|A7<|AB q λ_ h4 q=>rS<|cM<|cJ Cz O<|cP (C8 (aT O) aI h4)<|cA<|U 35 O<|AI<|Av [0,1] O (σ:=Int) (λs5=>[(5,.val (TiZ s5))]) q O (λ_ s5 q=>by exact A7<|rS<|cM<|cP (Gu (aT O) aI)<|U 1048611 O<|gc O q (λ_ q=>AD<|A5<|A7<|AI<|BE q λ_ h9 _ BO q=>gE 9 mixed<|dP [0] O (oM O)<|dP [5] O (oM O)<|dP [23,24] O (oX CY (AM O) O O h9)<|dP [25] O (BY (aT O) Cn)<|dP [1] O (oM O)<|dP [5] O (oM O)<|dP [27,28] O (oX CY (AM O) O O BO)<|dP [29] O (BY (aT O) Cn)<|dP [26,30] O (Cx (aT O) (aT O))<|dN<|dE [0,1,5,31] O A4<|cD<|gc O q (λ_ q=>A7<|BE q λ_ M _ S q=>gE 9 mixed<|dP [0] O (oM O)<|dP [5] O (oM O)<|dP [32,33] O (oX CY (AM O) O O M)<|dP [34] O (BY (aT O) Cn)<|dP [1] O (oM O)<|dP [5] O (oM O)<|dP [36,37] O (oX CY (AM O) O O S)<|dP [38] O (BY (aT O) Cn)<|dP [35,39] O (CV (aT O) (aT O))<|dN<|dE [40] O A4<|cD<|gc O q (λ_ q=>rS<|cI<|cF [4] O<|AA (AV q O)) λ_ q=>AD<|A5<|rS<|cI<|cF [4] O<|AA (AV q O)) λ_ q=>AD (A5 (AB q λ_ CN q=>by exact rK<|cM<|cP (C8 (aT O) aI CN)<|cO (oA O)<|U 35 O (cm q O)))) λ_ q=>Ai<|A5<|rS<|cI<|cF [4] O<|AA (AV q O))
def rL{a0 a1 a2 r}(q:Ws a0 a1 a2=some r):AN 282 [(TI .u64) a0,(TI .u64) a1,(TI .u64) a2] [(TI .u64) r.1,(TI .u64) r.2]:=by
 refine AP func282 O A4<|rS<|cI<|cI<|U 7 O<|A7<|rS<|cM<|cP (CW (aT O) aI)<|U 1048583 O<|gc O q (λ_ q=>?_) λ_ q=>?_
 ·cases q
 ·refine AD<|A5<|A7<|rS<|cM<|cM<|cP (QH (aT O) (aT O))<|U 16777223 O<|gc O q (λ_ q=>?_) λ_ q=>?_
  ·cases q
  ·refine AD<|A5<|A7<|rS<|cM<|cP (CW (aT O) aI)<|cF [0,1,2,27] O<|gc O q (λ_ q=>?_) λ_ q=>?_
   ·obtain⟨x4,h5,x6,h7,q⟩:=b2 q;refine gE 8 mixed<|dP [1] O (oM O)<|dP [2] O (oM O)<|dP [28,29] O (nt (aT O) (aT O) h5)<|dP [1] O (oM O)<|dP [2] O (oM O)<|dP [31,32] O (KX (aT O) (aT O) h7)<|dP [30] O (oA O)<|dP [33] O (oA O)<|dN<|dE [6,7] O A4<|cD ?_
    cases q;exact AA (r2 O)
   ·refine AD (A5 ?_);obtain⟨x8,h9,q⟩:=Ao q;refine rS<|cM<|cC (zB h9) O<|cP (RH SA alG (aT O))<|cA<|U 263 O ?_
    obtain⟨B7,BO,q⟩:=Ao q;refine rS<|cM<|cM<|cP (Z9 (aT O) (aT O) BO)<|cO (oA O)<|U 263 O ?_
    obtain⟨BD,P,q⟩:=Ao q;refine rS<|cM<|cP (Th (aT O) aI P)<|cA<|U 775 O<|rS<|cM<|cP (o5 (aT O) aI)<|cA<|U 1799 O ?_
    obtain⟨BS,Q,BK,T,q⟩:=b2 q;refine rS<|cM<|cM<|cP (Z9 (aT O) (aT O) Q)<|cM<|cM<|cP (PF aI (aT O))<|cP (Th (aT O) (aT O) T)<|cP (ow (aT O) (aT O))<|cA<|U 3846 O ?_
    obtain⟨Bo,CN,q⟩:=Ao q;refine rS<|cM<|cM<|cP (Z9 (aT O) (aT O) CN)<|cA<|U 7940 O ?_
    obtain⟨Bj,h21,q⟩:=Ao q;refine rS<|cM<|cP (Th (aT O) aI h21)<|cA<|U 16132 O<|rS<|cM<|cP (o5 (aT O) aI)<|cA<|U 28420 O ?_
    obtain⟨DN,E4,q⟩:=Ao q;refine rS<|cM<|cM<|cP (nt (aT O) (aT O) E4)<|cA<|U 61188 O<|rS<|cM<|cM<|cM<|cP (NI (aT O) (aT O))<|cP (PF (aT O) (aT O))<|cA<|U 126724 O<|A7<|Cc [2,8,9,10,11,13,14] O (α:=Int) (λs24=>[(15,.val (TI .u64 s24))]) q (λ_ q=>?_) (λs24 q=>?_)
    ·refine AI<|Av [2,8,9,10,11,13,14] O (σ:=Int×Int) (λs26=>[(15,.val (TI .u64 s26.1)),(16,.val (TI .u64 s26.2))]) q O (λ_ s26 q=>?_)
     refine A7<|rS<|cM<|cP (Gu (aT O) aI)<|cM<|gV O O (ov 15 O on) (λ_=>oM O)<|gV O O (ov 10 O on) (λ_=>oM O)<|gV O O (oo 70 O id (oo 71 O id on)) (λ_=>NI (aT O) (aT O))<|gV O O (ov 16 O on) (λ_=>oM O)<|gV O O (oo 73 O id on) (λ_=>NI aI (aT O))<|gV O O (ov 13 O on) (λ_=>oM O)<|gV O O (oo 74 O id (oo 75 O id on)) (λ_=>MX (aT O) (aT O))<|gV O O (oo 72 O id (oo 76 O id on)) (λ_=>C4 (aT O) (aT O))<|cP (Cf (aT O) O Ci)<|U 302231454903657293803268 O ?_
     refine gc O q (λ_ q=>?_) λ_ q=>?_
     ·refine AD<|A5<|AI<|rS<|cM<|cP (PF (aT O) aI)<|cO (oA O)<|U 126724 O<|rS<|cM<|cM<|cP (MX (aT O) (aT O))<|cO (oA O)<|U 126724 O<|rS<|cM<|cP (Gu (aT O) aI)<|U 38685626227668133590724356 O<|gc O q (λ_ q=>?_) λ_ q=>?_
      ·exact Ai (cm q O)
      ·exact AD (cm q O)
     ·exact Ai (cm q O)
    ·refine A5 ?_;refine rS<|cM<|cP (NI (aT O) aI)<|cM<|cP (MX (aT O) (aT O))<|cM<|cM<|cP (NI (aT O) (aT O))<|cP (PF (aT O) (aT O))<|cA<|U 182020 O ?_
     obtain⟨Dw,FW,q⟩:=Ao q;refine rS<|cM<|cM<|cP (nt (aT O) (aT O) FW)<|cA<|U 444164 O<|rS<|cM<|cM<|cM<|cP (NI (aT O) (aT O))<|cP (PF (aT O) (aT O))<|cA<|U 509700 O<|A7<|Cc [2,8,14,15,17] O (α:=Int) (λs32=>[(18,.val (TI .u64 s32))]) q (λ_ q=>?_) (λs32 q=>?_)
     ·refine AI<|Av [2,8,9,10,14,15,17] O (σ:=Int×Int) (λEI=>[(16,.val (TI .u64 EI.1)),(18,.val (TI .u64 EI.2))]) q O (λ_ EI q=>?_)
      refine A7<|rS<|cM<|cP (Gu (aT O) aI)<|cM<|gV O O (ov 18 O on) (λ_=>oM O)<|gV O O (ov 10 O on) (λ_=>oM O)<|gV O O (oo 105 O id (oo 106 O id on)) (λ_=>NI (aT O) (aT O))<|gV O O (ov 16 O on) (λ_=>oM O)<|gV O O (oo 108 O id on) (λ_=>NI aI (aT O))<|gV O O (ov 14 O on) (λ_=>oM O)<|gV O O (oo 109 O id (oo 110 O id on)) (λ_=>MX (aT O) (aT O))<|gV O O (oo 107 O id (oo 111 O id on)) (λ_=>C4 (aT O) (aT O))<|cP (Cf (aT O) O Ci)<|cF [2,8,9,10,14,15,16,17,18,113] O ?_
      refine gc O q (λ_ q=>?_) λ_ q=>?_
      ·refine AD<|A5<|AI<|rS<|cM<|cP (PF (aT O) aI)<|cO (oA O)<|U 509700 O<|rS<|cM<|cM<|cP (MX (aT O) (aT O))<|cO (oA O)<|U 509700 O<|rS<|cM<|cP (Gu (aT O) aI)<|cF [2,8,9,10,14,15,16,17,18,120] O<|gc O q (λ_ q=>?_) λ_ q=>?_
       ·exact Ai (cm q O)
       ·exact AD (cm q O)
      ·exact Ai (cm q O)
     ·refine A5 ?_;obtain⟨Gb,JH,q⟩:=Ao q;refine rS<|cM<|cP (NI (aT O) aI)<|cM<|cP (MX (aT O) (aT O))<|cM<|cP (NI (aT O) aI)<|cM<|cP (MX (aT O) (aT O))<|cM<|cM<|cP (NI (aT O) (aT O))<|cP (PF (aT O) (aT O))<|cM<|cP (Th (aT O) (aT O) JH)<|cA<|cA<|U 192 O ?_
      cases q;exact AA (r2 O)
def R2{a0 r}(q:Ni a0=some r):AN 259 [(TL (TI .u64)) a0] [(TL (TI .u64)) r]:=
 AP func259 O A4<|rS<|cP (B9 (Arg.nn (f:=(TI .u64))))<|U 1 O<|rS<|cM<|cJ Cz O<|cA<|U 9 O<|A7<|AI<|Av [0] O (σ:=Int) (λs1=>[(3,.val (TiZ s1))]) q O (λ_ s1 q=>by exact A7<|BL q λ_ h4 q=>BL q λ_ h6 q=>rS<|cM<|cP (C4 (aT O) aI)<|cM<|gV O O (ov 0 O on) (λ_=>oM O)<|gV O O (ov 3 O on) (λ_=>oM O)<|gV O O (oo 10 O id on) (λV=>C8 (aT O) aI (h4 V))<|gV O O (oo 9 O id (oo 11 O id on)) (λLP=>Eu CY (AM O) (aT O) (aT O) (h6 LP))<|gV O O (oo 12 O id on) (λ_=>BY (aT O) Cn)<|gV O O (oo 13 O id on) (λ_=>CW (aT O) aI)<|cP (Cd (aT O) O Ch)<|U 32777 O<|gc O q (λ_ q=>AD<|A5<|AI<|AB q λ_ h9 q=>by exact rK<|cM<|cP (C8 (aT O) aI h9)<|cO (oA O)<|U 9 O (cm q O)) λ_ q=>Ai (A5 (AB q λ_ BO q=>rS<|cM<|cM<|cP (Nj CY (AM O) (aT O) Lo.none (Lo.some (aT O)) BO)<|cA<|U 4 O<|AA (AV q O))))
def sX{a0 a1 r}(q:XL a0 a1=some r):EE prog 284 [(TL (TI .u64)) a0,TiZ a1] (.fr 255 1 (lT (TI .u64) r)):=by
 refine AP func284 O A4<| ?_
 refine rS<|cP (CE (TI .u64) 255 1)<|U 3 O ?_
 obtain⟨x1,h2,x3,h4,q⟩:=b2 q;refine rS<|cM<|cJ Cz O<|cH O h2<|cP (PN (TI .u64) WW Px O (aT O) (aT O) h4)<|cS (CO O O (AU O) _ (Or.inl O))<|U 35 O ?_
 refine A7<|rS<|cM<|cJ Cz O<|cN<|U 28706 O ?_
 refine AI<|Av [1,12,13] O (σ:=A3 Int×Int) (λs5=>[(5,.buf 255 1 (lT (TI .u64) s5.1)),(14,.val (TiZ s5.2))]) q O (λ_ s5 q=>?_)
 refine rS<|cL O O<|U 61474 O ?_
 refine A7<|gc O q (λ_ q=>?_) λ_ q=>?_
 ·refine AD<|A5<|A7<|Cc [1,12,13,14] O (α:=(A3 Int)) (λs8=>[(5,.buf 255 1 (lT (TI .u64) s8))]) q (λ_ q=>?_) (λs8 q=>?_)
  ·refine AI ?_;obtain⟨B7,BO,q⟩:=Ao q;refine rS<|cM<|cP (oX CY (AM O) O O BO)<|cR O Cn<|cA<|cA<|U 28898 O ?_
   obtain⟨BD,P,BS,Q,BK,T,Bo,CN,Bj,h21,q⟩:=b5 q;refine gE 10 mixed<|dP [5] O (Da)<|dP [6] O (oM O)<|dP [19,20,5] O (CT CY O O (aT O) P)<|dP [21,5] O (Et (f:=(TI .u64)) (λ_=>O) O O (Bv Q) Cn)<|dP [7] O (oM O)<|dP [1] O (oM O)<|dP [23,24] O (Z9 (aT O) (aT O) T)<|dP [22,25] O (ow (aT O) (aT O))<|dP [19,20,5] O (CT CY O O (aT O) CN)<|dS [26,27,5] O (nY (f:=(TI .u64)) (λ_=>O) O O (Bv h21) (aT O) Cn)<|dN<|dE [1,5,6,7,12,13,14] O A4<|cD ?_
   refine rS<|cM<|cP (C4 (aT O) aI)<|U 536899810 O ?_
   refine gc O q (λ_ q=>?_) λ_ q=>?_
   ·obtain⟨C7,DY,Cs,E3,Ct,El,FT,GN,FD,Fy,q⟩:=b5 q;exact rK<|cQ<|cM<|cH O DY<|cM<|cM<|cP (C8 aI (aT O) E3)<|cP (Th (aT O) (aT O) El)<|cP (CT CY O O (aT O) GN)<|cS (Iz (f:=(TI .u64)) (λ_=>O) O O (Bv Fy) (aT O) Cn)<|U 28706 O (cm q O)
   ·exact AD (cm q O)
  ·refine A5 ?_;obtain⟨FU,Gq,q⟩:=Ao q;exact rK<|cH O Gq<|cO (oM O)<|U 28706 O (cm q O)
 ·refine Ai<|A5<|rS<|cQ<|cS (mS O O O (AU O) _ (Or.inl O))<|cF [4] O ?_
  cases q;exact AA (Vy O O O O)
def af8{ps qs:A3 AO}{a0:A3 Int}{a1:A3 Int}{r:A3 Int×Int}(q:cc a0 a1=some r):IN prog 285 [] (.EZ 255 ps qs (lT (TI .u64) a0)) (.EZ 255 ps qs (lT (TI .u64) r.1)) [(TL (TI .u64)) a1] [(TI .u64) r.2]:=
 lJ (N:=186) func285 O ntmps285 (by simp) anZ O O λ_ v _ _ hk=>by exact Nn (sS [0,1,186] O)<|rS<|cI<|cF [0,1,186] O<|rS<|cM<|cJ Cz O<|cA<|cF [0,1,5,186] O<|rS<|cI<|cI<|cF [0,1,5,186] O<|rS<|cI<|cF [0,1,5,8,186] O<|A7<|Ir q λ_ h2 _ h4 _ h6 _ h8 q=>gE 10 mixed<|dP [0] O (Da)<|dP [5] O (oM O)<|dP [21,22,0] O (MW CY (EU.same O) O (aT O) h2)<|dP [23,0] O (QI (f:=(TI .u64)) (λ_=>O) O O (Bv h4) Cn)<|dP [1] O (oM O)<|dP [5] O (oM O)<|dP [26] O (C8 (aT O) aI h6)<|dP [25,27] O (oX CY (AM O) O O h8)<|dP [28] O (BY (aT O) Cn)<|dP [24,29] O (Gu (aT O) (aT O))<|dN<|dE [0,1,5,8,30,186] O A4<|cD<|Cc [0,1,5,186] O (α:=Int×Int×Int) (λs9=>[(6,.val (TI .u64 s9.1)),(7,.val (TI .u64 s9.2.1)),(8,.val (TI .u64 s9.2.2))]) q (λ_ q=>by exact gc O q (λ_ q=>rS<|cI<|cF [0,1,5,6,186] O<|Iq q λ_ P _ Q _ T _ CN _ h21 _ E4 q=>gD 16 mixed<|dP [0] O (Da)<|dP [5] O (oM O)<|dP [33] O (C8 (aT O) aI P)<|dP [32,34,0] O (MW CY (EU.same O) O (aT O) Q)<|dP [35,0] O (QI (f:=(TI .u64)) (λ_=>O) O O (Bv T) Cn)<|dP [1] O (oM O)<|dP [5] O (oM O)<|dP [38] O (C8 (aT O) aI CN)<|dP [37,39] O (oX CY (AM O) O O h21)<|dP [40] O (BY (aT O) Cn)<|dP [36,41] O (PG (TH E4) (AL.cons (aT O) (AL.cons (aT O) (AL.cons aI AL.nil))))<|dP [42] O (Ot O)<|dP [31] O (H8 O O)<|dP [31] O (H8 O O)<|dP [43] O (oA O)<|dP [44] O (oA O)<|dN<|dE [0,1,5,6,7,8,186] O A4<|cD (cm q O)) λ_ q=>Iq q λ_ Fz _ GO _ FX _ FW _ HT _ Hv q=>BE q λ_ KQ _ JH q=>gD 20 mixed<|dP [0] O (Da)<|dP [5] O (oM O)<|dP [46,47,0] O (MW CY (EU.same O) O (aT O) Fz)<|dP [48,0] O (QI (f:=(TI .u64)) (λ_=>O) O O (Bv GO) Cn)<|dP [0] O (Da)<|dP [5] O (oM O)<|dP [51] O (C8 (aT O) aI FX)<|dP [50,52,0] O (MW CY (EU.same O) O (aT O) FW)<|dP [53,0] O (QI (f:=(TI .u64)) (λ_=>O) O O (Bv HT) Cn)<|dP [1] O (oM O)<|dP [5] O (oM O)<|dP [56] O (C8 (aT O) aI Hv)<|dP [55,57] O (oX CY (AM O) O O KQ)<|dP [58] O (BY (aT O) Cn)<|dP [49,54,59] O (oC (rL JH) O)<|dP [60] O (Ot O)<|dP [45] O (H8 O O)<|dP [45] O (H8 O O)<|dP [61] O (oA O)<|dP [62] O (oA O)<|dN<|dE [0,1,5,6,7,8,186] O A4<|cD (cm q O)) (λs9 q=>by exact A5<|A7<|Cc [0,1,5,186] O (α:=Int) (λBp=>[(6,.val (TI .u64 Bp))]) q (λ_ q=>by exact AI<|Av [0,1,5,186] O (σ:=Int×Int×Int) (λJB=>[(6,.val (TI .u64 JB.1)),(7,.val (TI .u64 JB.2.1)),(8,.val (TI .u64 JB.2.2))]) q O (λ_ JB q=>by exact A7<|rS<|cM<|cP (CW (aT O) aI)<|cF [0,1,5,6,7,64,186] O<|gc O q (λ_ q=>AD<|A5<|AI<|Cu q λ_ h46 _ L3 _ h50 q=>rS<|cM<|cM<|cM<|cP (C8 (aT O) aI h46)<|cP (oX CY (AM O) O O L3)<|cR O Cn<|cC (eI h50) O<|cZ<|cE<|cE<|cA<|cA<|cF [0,1,5,6,7,9,10,186] O<|A7<|BL q λ_ Ll q=>BL q λ_ KO q=>BL q λ_ Lk q=>rS<|cM<|cM<|cL O O<|cM<|gV O O (ov 9 O on) (λ_=>oM O)<|gV O O (ov 7 O on) (λ_=>oM O)<|gV O O (oo 79 O id (oo 80 O id on)) (λ_=>CW (aT O) (aT O))<|gV O O (oo 81 O id on) (λ_=>oM O)<|gO O O (ov 10 O on) (λ_=>oM O)<|gO O O (ov 0 O on) (λ_=>Da)<|gO O O (ov 5 O on) (λ_=>oM O)<|gO O O (oo 85 O id on) (λPT=>C8 (aT O) aI (Ll PT))<|gO O O (oo 84 O id (oo 86 O id (ov 0 O on))) (λOT=>MW CY (EU.same O) O (aT O) (KO OT))<|gO O O (oo 87 O id (ov 0 O on)) (λYC=>QI (f:=(TI .u64)) (λ_=>O) O O (Bv (Lk YC)) Cn)<|gO O O (oo 83 O id (oo 88 O id on)) (λ_=>QH (aT O) (aT O))<|gV O O (oo 82 O id (ov 89 O on)) (λTj=>Cd (aT O) O (λh=>OI (id Tj) (Ch h)))<|cP (Cf (aT O) O Ci)<|cF [0,1,5,6,7,91,186] O<|gc O q (λ_ q=>Ai (cm q O)) λ_ q=>AD<|A5<|rS<|cM<|cP (PF (aT O) aI)<|cO (oA O)<|cF [0,1,5,6,7,186] O<|Cu q λ_ h59 _ h61 _ GM q=>by exact rK<|cM<|cM<|cM<|cP (C8 (aT O) aI h59)<|cP (oX CY (AM O) O O h61)<|cR O Cn<|cP (PG (TH GM) (AL.cons (aT O) (AL.cons (aT O) (AL.cons aI AL.nil))))<|cZ<|cE<|cE<|cO (oA O)<|cA<|cF [0,1,5,6,7,8,186] O (cm q O)) λ_ q=>Ai (cm q O))) (λBp q=>by exact A5<|rS<|cI<|cI<|cF [0,1,5,6,11,12,186] O<|A7<|rS<|cM<|cN<|cF [0,1,5,6,11,12,104,105,186] O<|AI<|Av [1,5,6,104,186] O (σ:=A3 Int×Int×Int×Int) (λEk=>[(0,.EZ 255 ps qs (lT (TI .u64) Ek.1)),(11,.val (TI .u64 Ek.2.1)),(12,.val (TI .u64 Ek.2.2.1)),(105,.val (TiZ Ek.2.2.2))]) q O (λ_ Ek q=>by exact rS<|cL O O<|cF [0,1,5,6,11,12,104,105,106,186] O<|A7<|gc O q (λ_ q=>AD<|A5<|A7<|AI<|rS<|cM<|cA<|cF [0,1,5,6,11,12,13,104,105,186] O<|BE q λ_ h68 _ h70 q=>rS<|cM<|cM<|cM<|cP (oX CY (AM O) O O h68)<|cR O Cn<|cC (eI h70) O<|cZ<|cE<|cE<|cA<|cA<|cF [0,1,5,6,11,12,13,14,15,104,105,186] O<|rS<|cI<|cF [0,1,5,6,11,12,13,14,15,104,105,186] O<|AB q λ_ h72 q=>rS<|cM<|cM<|cP (PG (TH h72) (AL.cons (aT O) (AL.cons (aT O) (AL.cons aI AL.nil))))<|cZ<|cE<|cE<|cO (oA O)<|cA<|cF [0,1,5,6,11,13,14,15,16,104,105,186] O<|rS<|cM<|cM<|cP (MX (aT O) (aT O))<|cA<|cF [0,1,5,6,11,12,13,15,104,105,186] O<|KR q λ_ h74 _ h76 _ h78 _ h80 _ h82 q=>by exact rK<|cQ<|cM<|cQ<|cM<|cP (MW CY (EU.same O) O (aT O) h74)<|cP (QI (f:=(TI .u64)) (λ_=>O) O O (Bv h76) Cn)<|cM<|cM<|cP (PG (nh h78) (AL.cons (aT O) (AL.cons (aT O) (AL.cons (aT O) AL.nil))))<|cZ<|cE<|cE<|cP (MW CY (EU.same O) O (aT O) h80)<|cS (oi (f:=(TI .u64)) (λ_=>O) O O (Bv h82) (aT O) Cn)<|cO (oA O)<|cF [0,1,5,6,11,12,104,105,186] O (A5 (AB q λ_ h84 q=>by exact rK<|cH O h84<|cO (oM O)<|cF [0,1,5,6,11,12,104,105,186] O (cm q O)))) λ_ q=>Ai (A5 (KR q λ_ h86 _ h88 _ h90 _ h92 _ h94 q=>rS<|cQ<|cM<|cQ<|cM<|cP (MW CY (EU.same O) O (aT O) h86)<|cP (QI (f:=(TI .u64)) (λ_=>O) O O (Bv h88) Cn)<|cM<|cM<|cP (PG (nh h90) (AL.cons (aT O) (AL.cons (aT O) (AL.cons (aT O) AL.nil))))<|cZ<|cE<|cE<|cP (MW CY (EU.same O) O (aT O) h92)<|cS (oi (f:=(TI .u64)) (λ_=>O) O O (Bv h94) (aT O) Cn)<|cO (oA O)<|cF [0,1,5,6,11,186] O<|A7<|rS<|cM<|cP (CW (aT O) aI)<|cF [0,1,5,6,154,186] O<|gc O q (λ_ q=>rS<|cM<|cA<|cF [0,4,186] O<|by cases q;exact AA (zd hk O (AQ.tmp O O AQ.nil) O O O O)) λ_ q=>AD<|A5<|rS<|cI<|cF [0,1,5,6,17,186] O<|A7<|rS<|cM<|cN<|cF [0,1,5,6,17,156,157,186] O<|AI<|Av [1,5,6,156,186] O (σ:=A3 Int×Int×Int) (λGl=>[(0,.EZ 255 ps qs (lT (TI .u64) Gl.1)),(17,.val (TI .u64 Gl.2.1)),(157,.val (TiZ Gl.2.2))]) q O (λ_ Gl q=>by exact rS<|cL O O<|cF [0,1,5,6,17,156,157,158,186] O<|A7<|gc O q (λ_ q=>AD<|A5<|A7<|AI<|rS<|cM<|cA<|cF [0,1,5,6,17,18,156,157,186] O<|Iq q λ_ Qi _ U7 _ U6 _ Qh _ Qg _ Qf q=>gD 18 mixed<|dP [0] O (Da)<|dP [18] O (oM O)<|dP [0] O (Da)<|dP [18] O (oM O)<|dP [163,164,0] O (MW CY (EU.same O) O (aT O) Qi)<|dP [165,0] O (QI (f:=(TI .u64)) (λ_=>O) O O (Bv U7) Cn)<|dP [1] O (oM O)<|dP [18] O (oM O)<|dP [167,168] O (oX CY (AM O) O O U6)<|dP [169] O (BY (aT O) Cn)<|dP [17] O (oM O)<|dP [166,170,171] O (PG (TH Qh) (AL.cons (aT O) (AL.cons (aT O) (AL.cons (aT O) AL.nil))))<|dP [172] O (Ot O)<|dP [160] O (H8 O O)<|dP [160] O (H8 O O)<|dP [161,162,0] O (MW CY (EU.same O) O (aT O) Qg)<|dS [173,175,0] O (ak2 (f:=(TI .u64)) (λ_=>O) O O (Bv Qf) (aT O) Cn)<|dP [174] O (oA O)<|dN<|dE [0,1,5,6,17,156,157,186] O A4<|cD (A5 (AB q λ_ Qe q=>by exact rK<|cH O Qe<|cO (oM O)<|cF [0,1,5,6,17,156,157,186] O (cm q O)))) λ_ q=>Ai (A5 (Ir q λ_ Qd _ U5 _ U4 _ Zj q=>rS<|cQ<|cM<|cP (MW CY (EU.same O) O (aT O) Qd)<|cP (QI (f:=(TI .u64)) (λ_=>O) O O (Bv U5) Cn)<|cM<|cP (MX (aT O) (aT O))<|cP (MW CY (EU.same O) O (aT O) U4)<|cS (oi (f:=(TI .u64)) (λ_=>O) O O (Bv Zj) (aT O) Cn)<|cF [0,6,186] O<|rS<|cM<|cP (PF (aT O) aI)<|cA<|cF [0,4,186] O<|by cases q;exact AA (zd hk O (AQ.tmp O O AQ.nil) O O O O)))))))))
def tH{a0 a1 r}(q:XX a0 a1=some r):AN 240 [(TL (TI .u64)) a0,(TL (TI .u64)) a1] [(TL (TI .u64)) r.1,(TL (TI .u64)) r.2]:=by
 refine AP func240 O A4<| ?_
 refine rS<|cP (B9 (Arg.nn (f:=(TI .u64))))<|cP (B9 (Arg.nn (f:=(TI .u64))))<|U 3 O ?_
 refine A7 ?_;obtain⟨x1,h2,q⟩:=Ao q;refine rS<|cM<|cM<|cC (rF h2) O<|cP (CV (aT O) aI)<|U 524291 O ?_
 refine gc O q (λ_ q=>?_) λ_ q=>?_
 ·refine rS<|cM<|cP (B9 (Arg.nn (f:=(TI .u64))))<|cA<|U 48 O ?_
  cases q;exact AA (E5 (GK (t:=4) O) (C6 O O (AQ.tmp O O (AQ.tmp O O AQ.nil))))
 ·refine AD<|A5<|A7<|rS<|cM<|cJ Cz O<|cP (CW (aT O) aI)<|cF [0,1,23] O ?_
  refine gc O q (λ_ q=>?_) λ_ q=>?_
  ·obtain⟨x5,h6,q⟩:=Ao q;refine rS<|cM<|cJ Cz O<|cP (PN (TI .u64) WW Px O (aT O) (aT O) h6)<|cS (CO O O (AU O) _ (Or.inl O))<|U 67 O ?_
   refine rS<|cI<|U 195 O ?_
   refine A7 ?_;obtain⟨x7,h8,q⟩:=Ao q;refine rS<|cM<|cJ Cz O<|cP (C8 (aT O) aI h8)<|cA<|U 451 O ?_
   refine AI<|Av [0,1] O (σ:=A3 Int×Int×Int) (λs9=>[(6,.buf 255 1 (lT (TI .u64) s9.1)),(7,.val (TI .u64 s9.2.1)),(8,.val (TiZ s9.2.2))]) q O (λ_ s9 q=>?_)
   refine A7<|rS<|cM<|cP (Gu (aT O) aI)<|U 2147484099 O ?_
   refine gc O q (λ_ q=>?_) λ_ q=>?_
   ·refine AD<|A5<|A7<|AI ?_
    obtain⟨BD,P,BS,Q,BK,T,Bo,CN,Bj,h21,q⟩:=b5 q;refine gD 17 mixed<|dP [6] O (Da)<|dP [8] O (oM O)<|dP [7] O (oM O)<|dP [0] O (oM O)<|dP [8] O (oM O)<|dP [38,39] O (oX CY (AM O) O O P)<|dP [40] O (BY (aT O) Cn)<|dP [1] O (oM O)<|dP [42] O (Eu CY (AM O) (aT O) aI Q)<|dP [43] O (BY (aT O) Cn)<|dP [37,41,44] O (oC (rL T) O)<|dP [45] O (Ot O)<|dP [34] O (H8 O O)<|dP [34] O (H8 O O)<|dP [35,36,6] O (CT CY O O (aT O) CN)<|dS [46,48,6] O (nY (f:=(TI .u64)) (λ_=>O) O O (Bv h21) (aT O) Cn)<|dP [47] O (oA O)<|dN<|dE [0,1,6,7,8] O A4<|cD (A5 ?_)
    obtain⟨DN,E4,q⟩:=Ao q;exact rK<|cM<|cP (C8 (aT O) aI E4)<|cO (oA O)<|U 451 O (cm q O)
   ·refine Ai (A5 ?_);obtain⟨Dc,Fz,Fj,GO,q⟩:=b2 q;refine rS<|cQ<|cG (CL (t:=6) O)<|cG (Ep (s:=49) O O)<|cC (R2 Fz) O<|cM<|cP (bS Px pf O O)<|cC (R2 GO) O<|cA<|cA<|U 48 O ?_
    cases q;exact AA (r2 O)
  ·refine AD (A5 ?_);obtain⟨Es,FX,Dw,FW,DG,HT,q⟩:=b3 q;refine rS<|cM<|cM<|cJ Cz O<|cP (C8 (aT O) aI FX)<|cP (oX CY (AM O) O O FW)<|cR O Cn<|cC (zB HT) O<|cA<|U 515 O ?_
   obtain⟨G6,Hv,EG,KQ,q⟩:=b2 q;refine rS<|cM<|cM<|cC (sX Hv) O<|cG (CL (t:=63) O)<|cC (R2 KQ) O<|cA<|U 1537 O ?_
   obtain⟨Gb,JH,q⟩:=Ao q;refine rS<|cM<|cM<|cC (sX JH) O<|cS (CO O O (AU O) _ (Or.inl O))<|U 3585 O ?_
   refine rS<|cM<|cJ Cz O<|cA<|U 7681 O ?_
   obtain⟨Lb,h41,La,h43,Nd,HO,q⟩:=b3 q;refine rS<|cM<|cJ Cz O<|cM<|cP (C8 (aT O) (aT O) h41)<|cH O h43<|cP (PN (TI .u64) WW Px O (aT O) (aT O) HO)<|cS (CO O O (AU O) _ (Or.inl O))<|U 15873 O ?_
   refine A7 ?_;obtain⟨KB,IJ,q⟩:=Ao q;refine rS<|cM<|cJ Cz O<|cM<|cP (C8 (aT O) (aT O) IJ)<|cA<|U 32256 O ?_
   refine AI<|Av [9,10,12] O (σ:=A3 Int×A3 Int×Int) (λFF=>[(11,.buf 255 1 (lT (TI .u64) FF.1)),(13,.buf 255 1 (lT (TI .u64) FF.2.1)),(14,.val (TiZ FF.2.2))]) q O (λ_ FF q=>?_)
   refine A7<|rS<|cM<|cP (Gu (aT O) aI)<|cF [9,10,11,12,13,14,81] O ?_
   refine gc O q (λ_ q=>?_) λ_ q=>?_
   ·refine AD<|A5<|A7<|AI ?_
    obtain⟨J7,Ll,Ga,KO,q⟩:=b2 q;obtain⟨h55,q⟩:=Vi q;obtain⟨J9,h57,q⟩:=Ao q;obtain⟨h58,q⟩:=Vi q;obtain⟨x59,h60,x61,h62,q⟩:=b2 q;refine rK<|cQ<|cM<|cQ<|cM<|cM<|cM<|cP (CR (aT O) (aT O) Ll)<|cH O KO<|cP (vR (f:=(TI .u64)) CY (EU.same O) O (Lo.some (aT O)) (Lo.some (aT O)) h55)<|cM<|cS (w9 (f:=(TI .u64)) (xs:=[]) (ys:=[.tmp 93]) (λ_=>O) (λ_ _ _=>af8 h57) EU.own O O h58 AL.nil (AL.cons (aT O) AL.nil) (AU O) O)<|cP (CT CY O O (aT O) h60)<|cS (Iz (f:=(TI .u64)) (λ_=>O) O O (Bv h62) (aT O) Cn)<|U 32256 O (A5 ?_)
    obtain⟨x63,h64,q⟩:=Ao q;exact rK<|cM<|cP (C8 (aT O) aI h64)<|cO (oA O)<|U 32256 O (cm q O)
   ·refine Ai<|A5<|A7<|rS<|cM<|cN<|cF [9,11,12,13,96,97] O ?_
    refine AI<|Av [9,12,13,96] O (σ:=A3 Int×Int) (λE8=>[(11,.buf 255 1 (lT (TI .u64) E8.1)),(97,.val (TiZ E8.2))]) q O (λ_ E8 q=>?_)
    refine rS<|cL O O<|cF [9,11,12,13,96,97,98] O ?_
    refine A7<|gc O q (λ_ q=>?_) λ_ q=>?_
    ·refine AD<|A5<|A7<|Cc [9,12,13,96,97] O (α:=(A3 Int)) (λs68=>[(11,.buf 255 1 (lT (TI .u64) s68))]) q (λ_ q=>?_) (λs68 q=>?_)
     ·refine AI<|rS<|cM<|cA<|cF [9,11,12,13,15,96,97] O ?_
      obtain⟨x70,h71,x72,h73,Ih,h75,x76,h77,x78,h79,q⟩:=b5 q;refine rS<|cQ<|cM<|cP (CT CY O O (aT O) h71)<|cP (Et (f:=(TI .u64)) (λ_=>O) O O (Bv h73) Cn)<|cM<|cP (Th (aT O) (aT O) h75)<|cP (CT CY O O (aT O) h77)<|cS (Iz (f:=(TI .u64)) (λ_=>O) O O (Bv h79) (aT O) Cn)<|cF [9,11,12,13,15,96,97] O ?_
      obtain⟨x80,h81,q⟩:=L6 q;refine rS<|cM<|cP (C4 (aT O) aI)<|cM<|gV O O (ov 15 O on) (λ_=>oM O)<|gV O O (oo 110 O id on) (λhg2=>CR (aT O) aI (h81 hg2))<|gV O O (ov 11 O on) (λ_=>Da)<|gV O O (oo 112 O id (ov 11 O on)) (λ_=>Mx Cz O O)<|gV O O (oo 111 O id (oo 113 O id on)) (λ_=>CV (aT O) (aT O))<|cP (Cd (aT O) O Ch)<|cF [9,11,12,13,15,96,97,115] O ?_
      refine gc O q (λ_ q=>?_) λ_ q=>?_
      ·obtain⟨Nf,h84,x85,h86,Mm,h88,Jf,h90,x91,h92,x93,h94,q⟩:=b6 q;obtain⟨x95,h96,x97,h98,Ml,Qi,q⟩:=b3 q;exact gD 15 mixed<|dP [11] O (Da)<|dP [15] O (oM O)<|dP [116,117,11] O (CT CY O O (aT O) h84)<|dP [118,11] O (Et (f:=(TI .u64)) (λ_=>O) O O (Bv h86) Cn)<|dP [11] O (Da)<|dP [15] O (oM O)<|dP [121] O (CR (aT O) aI h88)<|dP [120,122,11] O (CT CY O O (aT O) h90)<|dP [123,11] O (Et (f:=(TI .u64)) (λ_=>O) O O (Bv h92) Cn)<|dP [9] O (oM O)<|dP [125] O (C8 aI (aT O) h94)<|dP [124,126] O (Z9 (aT O) (aT O) h96)<|dP [119,127] O (ow (aT O) (aT O))<|dP [116,117,11] O (CT CY O O (aT O) h98)<|dS [128,129,11] O (nY (f:=(TI .u64)) (λ_=>O) O O (Bv Qi) (aT O) Cn)<|dN<|dE [9,11,12,13,96,97] O A4<|cD (cm q O)
      ·exact AD (cm q O)
     ·refine A5 ?_;obtain⟨ON,U7,q⟩:=Ao q;exact rK<|cH O U7<|cO (oM O)<|cF [9,11,12,13,96,97] O (cm q O)
    ·refine Ai<|A5<|A7<|O1 (CL (t:=13) O) ?_
     refine O1 (CL (t:=11) O) ?_;refine Nn (sS [9,11,12,13,96,97,98] O) ?_;obtain⟨QY,U6,Md,Qh,OL,Qg,q⟩:=b3 q;refine gD 8 mixed<|dP [13] O (oM O)<|dP [131] O (oC (R2 U6) O)<|dP [11] O (oM O)<|dP [12] O (oM O)<|dP [133,134] O (Nj CY (AM O) (aT O) Lo.none (Lo.some (aT O)) Qh)<|dP [135] O (oC (R2 Qg) O)<|dP [132] O (oA O)<|dP [136] O (oA O)<|dN<|dE [4,5] O A4<|cD (A5 ?_)
     cases q;exact AA (r2 O)
def acf{a0 a1 r}(q:XB a0 a1=some r):AN 216 [(TL (TI .u64)) a0,(TL (TI .u64)) a1] [(TL (TI .u64)) r]:=by
 unfold XB at q;refine AP func216 O A4<| ?_
 refine rS<|cP (B9 (Arg.nn (f:=(TI .u64))))<|U 3 O ?_
 refine A7<|rS<|cM<|cJ Cz O<|cM<|cJ Cz O<|cL O O<|U 8195 O ?_
 refine Ry (α:=A3 Int×A3 Int) (λs1=>[(0,.val (TL (TI .u64) s1.1)),(1,.val (TL (TI .u64) s1.2))]) q (λ_ q=>?_) (λs1 q=>?_)
 ·refine gc O q (λ_ q=>?_) λ_ q=>?_
  ·exact rK<|cM<|cM<|cO (oA O)<|cO (oA O)<|U 3 O (cm q O)
  ·exact AD (cm q O)
 ·refine A5 ?_;obtain⟨x4,h5,x6,h7,q⟩:=b2 q;refine rS<|cM<|cJ Cz O<|cH O h5<|cP (PN (TI .u64) WW Px O (aT O) (aT O) h7)<|cS (CO O O (AU O) _ (Or.inl O))<|U 35 O ?_
  refine rS<|cI<|U 99 O ?_
  refine A7<|rS<|cM<|cJ Cz O<|cN<|U 6291555 O ?_
  refine AI<|Av [0,1,21] O (σ:=A3 Int×Int×Int) (λs8=>[(5,.buf 255 1 (lT (TI .u64) s8.1)),(6,.val (TI .u64 s8.2.1)),(22,.val (TiZ s8.2.2))]) q O (λ_ s8 q=>?_)
  refine rS<|cL O O<|U 14680163 O ?_
  refine A7<|gc O q (λ_ q=>?_) λ_ q=>?_
  ·refine AD<|A5<|A7<|AI<|rS<|cM<|cA<|U 6291683 O ?_
   refine rS<|cI<|U 6291939 O ?_
   refine A7<|rS<|cM<|cM<|cJ Cz O<|cL O O<|U 274727395 O ?_
   refine Cc [0,1,5,6,7,21,22] O (α:=Int) (λHJ=>[(8,.val (TI .u64 HJ))]) q (λ_ q=>?_) (λHJ q=>?_)
   ·refine gc O q (λ_ q=>?_) λ_ q=>?_
    ·obtain⟨BS,Q,q⟩:=Ao q;exact rK<|cM<|cM<|cP (oX CY (AM O) O O Q)<|cR O Cn<|cO (oA O)<|U 6291939 O (cm q O)
    ·exact AD (cm q O)
   ·refine A5 ?_;obtain⟨BK,T,Bo,CN,Bj,h21,DN,E4,q⟩:=b4 q;refine rK<|cQ<|cM<|cM<|cM<|cP (oX CY (AM O) O O T)<|cR O Cn<|cM<|cM<|cP (PG (TH CN) (AL.cons (aT O) (AL.cons (aT O) (AL.cons (aT O) AL.nil))))<|cZ<|cE<|cE<|cP (CT CY O O (aT O) h21)<|cS (Iz (f:=(TI .u64)) (λ_=>O) O O (Bv E4) (aT O) Cn)<|cO (oA O)<|U 6291555 O (A5 ?_)
    obtain⟨Dc,Fz,q⟩:=Ao q;exact rK<|cH O Fz<|cO (oM O)<|U 6291555 O (cm q O)
  ·refine Ai (A5 ?_);obtain⟨Fj,GO,Es,FX,q⟩:=b2 q;refine rS<|cQ<|cM<|cJ Cz O<|cM<|cP (CT CY O O (aT O) GO)<|cS (Iz (f:=(TI .u64)) (λ_=>O) O O (Bv FX) (aT O) Cn)<|cF [5] O ?_
   obtain⟨Dw,FW,q⟩:=Ao q;refine rS<|cQ<|cG (CL (t:=5) O)<|cG (Ep (s:=52) O O)<|cC (R2 FW) O<|cA<|cF [4] O ?_
   cases q;exact AA (r1 O)
def sA{a0 a1 r}(q:XA a0 a1=some r):AN 218 [(TL (TI .u64)) a0,(TL (TI .u64)) a1] [(TL (TI .u64)) r]:=by
 refine AP func218 O A4<| ?_
 refine rS<|cP (B9 (Arg.nn (f:=(TI .u64))))<|U 3 O ?_
 obtain⟨x1,h2,q⟩:=Ao q;refine rS<|cM<|cJ Cz O<|cP (PN (TI .u64) WW Px O (aT O) (aT O) h2)<|cS (CO O O (AU O) _ (Or.inl O))<|U 35 O ?_
 refine rS<|cI<|U 99 O ?_
 refine A7<|rS<|cM<|cJ Cz O<|cN<|U 24675 O ?_
 refine AI<|Av [0,1,13] O (σ:=A3 Int×Int×Int) (λs3=>[(5,.buf 255 1 (lT (TI .u64) s3.1)),(6,.val (TI .u64 s3.2.1)),(14,.val (TiZ s3.2.2))]) q O (λ_ s3 q=>?_)
 refine rS<|cL O O<|U 57443 O ?_
 refine A7<|gc O q (λ_ q=>?_) λ_ q=>?_
 ·refine AD<|A5<|A7<|AI<|rS<|cM<|cA<|U 24803 O ?_
  refine rS<|cI<|U 25059 O ?_
  refine A7<|rS<|cM<|cM<|cJ Cz O<|cL O O<|U 1073635 O ?_
  refine Cc [0,1,5,6,7,13,14] O (α:=Int) (λs6=>[(8,.val (TI .u64 s6))]) q (λ_ q=>?_) (λs6 q=>?_)
  ·refine gc O q (λ_ q=>?_) λ_ q=>?_
   ·obtain⟨x9,BJ,q⟩:=Ao q;exact rK<|cM<|cM<|cP (oX CY (AM O) O O BJ)<|cR O Cn<|cO (oA O)<|U 25059 O (cm q O)
   ·exact AD (cm q O)
  ·refine A5 ?_;obtain⟨Ax,Bm,Bf,M,BV,S,BW,W,q⟩:=b4 q;refine rK<|cQ<|cM<|cM<|cM<|cP (oX CY (AM O) O O Bm)<|cR O Cn<|cM<|cM<|cP (PG (nh M) (AL.cons (aT O) (AL.cons (aT O) (AL.cons (aT O) AL.nil))))<|cZ<|cE<|cE<|cP (CT CY O O (aT O) S)<|cS (Iz (f:=(TI .u64)) (λ_=>O) O O (Bv W) (aT O) Cn)<|cO (oA O)<|U 24675 O (A5 ?_)
   obtain⟨Bg,Cw,q⟩:=Ao q;exact rK<|cH O Cw<|cO (oM O)<|U 24675 O (cm q O)
 ·refine Ai (A5 ?_);obtain⟨C5,DZ,q⟩:=Ao q;refine rS<|cQ<|cG (CL (t:=5) O)<|cG (Ep (s:=39) O O)<|cC (R2 DZ) O<|cA<|cF [4] O ?_
  cases q;exact AA (r1 O)
def bJ{a0 a1 r}(q:Sr a0 a1=some r):AN 152 [CD a0,CD a1] [CD r]:=
 AP func152 O A4<|rS<|cX<|cX<|cT EN<|U 28 O<|A7<|rS<|Bh 1 O LH O LR<|cP (M6 Cz (aT O))<|cM<|gV O O (ov 3 O on) (λ_=>FH O LH)<|gV O O (oo 14 O id (ov 3 O on)) (λ_=>oP 1 O O LR)<|gV O O (oo 15 O id on) (λ_=>M6 Cz (aT O))<|cP (Cd (aT O) O Ch)<|U 131100 O<|Cc [2,3] O (α:=(Int×A3 Int)) (λs1=>[(4,.own 93 (CD s1))]) q (λ_ q=>by exact gc O q (λ_ q=>rS<|Bh 0 O Fb O B<|Bh 0 O Fb O B<|cP (MX (aT O) (aT O))<|cA<|U 60 O<|rS<|cM<|Bh 0 O Fb O B<|cP (C4 (aT O) (aT O))<|Bh 0 O Fb O B<|cP (C4 (aT O) aI)<|cP (o4 Vg (aT O) (aT O))<|U 1073741884 O<|gc O q (λ_ q=>rS<|cM<|cP (bB EN MV O)<|cs O O O g<|cF [4] O<|AA (C1 q O g)) λ_ q=>AD (cm q O)) λ_ q=>AD (cm q O)) (λs1 q=>by exact A5<|AB q λ_ h6 q=>rS<|cU O g<|cC (Pf h6) O<|cZ<|cE<|cE<|cA<|cA<|U 216 O<|AB q λ_ h8 q=>rS<|cU O g<|cC (Pf h8) O<|cZ<|cE<|cE<|cA<|cA<|U 976 O<|A7<|AI<|rS<|cM<|cM<|cP (o4 Vg (aT O) (aT O))<|cA<|cF [4,6,7,8,9,43] O<|gc O q (λ_ q=>BE q λ_ BO _ P q=>rS<|cM<|cM<|cM<|cC (acf BO) O<|cC (Sv P) O<|cs O O O g<|cF [4] O<|AA (C1 q O g)) λ_ q=>AB q λ_ Q q=>rS<|cM<|cM<|cC (rF Q) O<|cP (Gu (aT O) aI)<|cA<|cF [4,6,7,8,9,52] O<|gc O q (λ_ q=>BE q λ_ W _ Cw q=>rS<|cM<|cM<|cM<|cC (sA W) O<|cC (Sv Cw) O<|cs O O O g<|cF [4] O<|AA (C1 q O g)) λ_ q=>AD (A5 (BE q λ_ DZ _ DY q=>rS<|cM<|cM<|cM<|cC (sA DZ) O<|cC (Sv DY) O<|cs O O O g<|cF [4] O<|AA (C1 q O g))))
def sY{a0 a1 r}(q:XM a0 a1=some r):AN 215 [CD a0,CD a1] [CD r]:=
 AP func215 O A4<|rS<|cX<|cX<|cT EN<|U 28 O<|BE q λ_ h2 _ h4 q=>gE 5 mixed<|dP [2] O (An O g)<|dP [3] O (An O g)<|dP [6] O (oC (Qq h2) O)<|dP [5,7] O (oC (bJ h4) O)<|dS [4,8] O (ds O O O g)<|dN<|dE [4] O A4<|cD<|AA (C1 q O g)
def rU{a0 a1 r}(q:X0 a0 a1=some r):AN 184 [CD a0,CD a1] [CD r.1,CD r.2]:=
 AP func184 O A4<|rS<|cX<|cX<|cT EN<|cT EN<|U 60 O<|A7<|rS<|Bh 1 O LH O LR<|cP (M6 Cz (aT O))<|cM<|gV O O (ov 3 O on) (λ_=>FH O LH)<|gV O O (oo 20 O id (ov 3 O on)) (λ_=>oP 1 O O LR)<|gV O O (oo 21 O id on) (λ_=>M6 Cz (aT O))<|cP (Cd (aT O) O Ch)<|cM<|gV O O (ov 2 O on) (λ_=>FH O Fb)<|gV O O (oo 25 O id (ov 2 O on)) (λ_=>oP 0 O O B)<|gV O O (oo 26 O id on) (λ_=>Cx (aT O) aI)<|cP (Cd (aT O) O Ch)<|U 268435516 O<|gc O q (λ_ q=>BE q λ_ h3 _ h5 q=>gE 12 mixed<|dQ 0 O Fb O B<|dQ 0 O Fb O B<|dP [30,32] O (N6 (aT O) (aT O) h3)<|dQ 0 O Fb O B<|dQ 0 O Fb O B<|dP [35,37] O (KX (aT O) (aT O) h5)<|dP [33] O (oA O)<|dP [38] O (oA O)<|dN<|dE [3,4,5,6,7] O A4<|cD<|A7<|rS<|cM<|cP (CV (aT O) aI)<|cF [3,4,5,6,7,40] O<|Cc [4,5] O (α:=Int×Int) (λs6=>[(6,.val (TiZ s6.1)),(7,.val (TiZ s6.2))]) q (λ_ q=>by exact gc O q (λ_ q=>BE q λ_ BJ _ Bm q=>gD 8 mixed<|dP [6] O (oM O)<|dP [41] O (C8 (aT O) aI BJ)<|dP [7] O (oM O)<|dQ 0 O Fb O B<|dP [43,45] O (CR (aT O) (aT O) Bm)<|dP [42] O (oA O)<|dP [46] O (oA O)<|dN<|dE [4,5,6,7] O A4<|cD (cm q O)) λ_ q=>AD (cm q O)) (λs6 q=>by exact A5<|rS<|cM<|cP (bB EN MV O)<|cM<|cP (bB EN MV O)<|cs O O O g<|cs O O O g<|U 48 O<|by cases q;exact AA (C6 O O (AQ.cell O (F7 g) O (AQ.cell O (F7 g) O AQ.nil))))) λ_ q=>AD (A5 (AB q λ_ M q=>rS<|cU O g<|cC (Pf M) O<|cZ<|cE<|cE<|cA<|cA<|U 824 O<|AB q λ_ S q=>rS<|cU O g<|cC (Pf S) O<|cZ<|cE<|cE<|cA<|cA<|U 2872 O<|AB q λ_ W q=>rS<|cM<|cM<|cC (tH W) O<|cZ<|cE<|cE<|cA<|cA<|U 12600 O<|BE q λ_ Cw _ DZ q=>rS<|cM<|cM<|cC (Sv Cw) O<|cM<|cM<|cC (Sv DZ) O<|cT EN<|cT EN<|cs O O O g<|cs O O O g<|U 49208 O<|A7<|AB q λ_ DY q=>rS<|cU O g<|cC (UN DY) O<|cP (CV (aT O) aI)<|cF [3,4,5,14,15,75] O<|Cc [4,5] O (α:=(Int×A3 Int)×(Int×A3 Int)) (λDq=>[(14,.own 93 (CD Dq.1)),(15,.own 93 (CD Dq.2))]) q (λ_ q=>by exact gc O q (λ_ q=>Cu q λ_ FX _ FW _ HT q=>gD 8 mixed<|dP [14] O (An O g)<|dP [] O (oC (Xv FX) O)<|dP [76,77] O (oC (sY FW) O)<|dP [15] O (An O g)<|dP [3] O (An O g)<|dP [79,80] O (oC (bJ HT) O)<|dS [14,78] O (ds O O O g)<|dS [15,81] O (ds O O O g)<|dN<|dE [4,5,14,15] O A4<|cD (cm q O)) λ_ q=>AD (cm q O)) (λDq q=>by exact A5<|gE 4 mixed<|dP [14] O (An O g)<|dP [15] O (An O g)<|dS [4,82] O (ds O O O g)<|dS [5,83] O (ds O O O g)<|dN<|dE [4,5] O A4<|cD<|by cases q;exact AA (C6 O O (AQ.cell O (F7 g) O (AQ.cell O (F7 g) O AQ.nil))))))
def uz{a0 a1 r}(q:dH a0 a1=some r):AN 120 [CD a0,CD a1] [CD r]:=
 AP func120 O A4<|rS<|cX<|cX<|cT EN<|U 28 O<|BE q λ_ h2 _ h4 q=>gE 6 mixed<|dP [2] O (An O g)<|dP [7] O (oC (kK h2) O)<|dP [3] O (An O g)<|dP [9] O (oC (kK h4) O)<|dS [2,8] O (ds O O O g)<|dS [3,10] O (ds O O O g)<|dN<|dE [2,3,4] O A4<|cD<|A7<|AI<|Av [4] O (σ:=(Int×A3 Int)×(Int×A3 Int)) (λs5=>[(2,.own 93 (CD s5.1)),(3,.own 93 (CD s5.2))]) q O (λ_ s5 q=>by exact A7<|AB q λ_ h8 q=>rS<|cU O g<|cC (UN h8) O<|cP (Cx (aT O) aI)<|U 8220 O<|gc O q (λ_ q=>AD<|A5<|AI<|AB q λ_ BO q=>rS<|cU O g<|cU O g<|cC (rU BO) O<|cZ<|cE<|cE<|cT EN<|cT EN<|cs O O O g<|cs O O O g<|U 92 O<|gD 4 mixed<|dP [3] O (An O g)<|dP [6] O (An O g)<|dS [2,20] O (ds O O O g)<|dS [3,21] O (ds O O O g)<|dN<|dE [2,3,4] O A4<|cD (cm q O)) λ_ q=>Ai<|A5<|rS<|cU O g<|cs O O O g<|cF [4] O<|AA (C1 q O g))
def acD{a0 r}(q:ak a0=some r):AN 122 [CD a0] [TiZ r.1,Ar r.2]:=by
 unfold ak at q;exact AP func122 O A4<|rS<|cX<|cI<|cB<|U 2 O<|gE 7 mixed<|dQ 0 O Fb O B<|dQ 1 O LH O LR<|dP [7] O (M6 Cz (aT O))<|dP [5] O (oA O)<|dP [8] O (oA O)<|dN<|dE [2,3] O A4<|cD<|by cases q;exact AA (r2 O)
def kS{a0 a1 r}(q:XS a0 a1=some r):AN 124 [Ar a0,TiZ a1] [TiZ r]:=
 AP func124 O A4<|rS<|cI<|U 3 O<|A7<|rS<|cM<|U 34 O<|gc O q (λ_ q=>rS<|cM<|cA<|cF [4] O<|AA (AV q O)) λ_ q=>AD<|A5<|rS<|cI<|cF [4] O<|AA (AV q O)
def jF{a0 a1 r}(q:Ng a0 a1=some r):AN 254 [TS a0,TS a1] [Ar r]:=
 AP func254 O A4<|rS<|cB<|U 3 O<|BL q λ_ h2 q=>rS<|cM<|cP (EL X (aT O))<|cM<|cP (EL X (aT O))<|cP (Gu (aT O) (aT O))<|cM<|gV O O (ov 0 O on) (λ_=>oM O)<|gV O O (ov 1 O on) (λ_=>oM O)<|gV O O (oo 12 O id on) (λ_=>EL X (aT O))<|gV O O (oo 11 O id (oo 13 O id on)) (λLP=>Gr X (aT O) Lo.none (Lo.some (aT O)) (h2 LP))<|gV O O (ov 1 O on) (λ_=>oM O)<|gV O O (oo 14 O id (oo 15 O id on)) (λ_=>PH (aT O) (aT O))<|cP (Cd (aT O) O Ch)<|cA<|cF [4] O<|AA (AV q O)
def abM{a0 a1 r}(q:Zz a0 a1=some r):AN 245 [TS a0,TS a1] [TS r.1,Ar r.2]:=
 AP func245 O A4<|rS<|cP (B9 (Arg.s O))<|cB<|U 3 O<|A7<|AB q λ_ h2 q=>rS<|cM<|cM<|cC (jF h2) O<|cP (DH (aT O))<|U 515 O<|gc O q (λ_ q=>rS<|cM<|cA<|cB<|U 48 O<|by cases q;exact AA (r2 O)) λ_ q=>AD (A5 (AB q λ_ h5 q=>rS<|cM<|cM<|cP (EL X (aT O))<|cP (Gr X (aT O) (Lo.some (aT O)) Lo.none h5)<|cA<|cB<|U 48 O<|by cases q;exact AA (r2 O)))
def abW{a0 a1 r}(q:Ql a0 a1=some r):AN 186 [TS a0,TS a1] [TS r.1,Ar r.2]:=
 AP func186 O A4<|rS<|cP (B9 (Arg.s O))<|cB<|U 3 O<|AB q λ_ h2 q=>rS<|cM<|cM<|cC (abM h2) O<|cE<|cE<|cA<|cA<|U 48 O<|by cases q;exact AA (r2 O)
def acQ{a0 r}(q:aq a0=some r):AN 246 [TS a0] [Ar r]:=
 AP func246 O A4<|rS<|cB<|U 1 O<|A7<|rS<|cM<|cP (EL X (aT O))<|cN<|U 97 O<|AI<|Av [0,5] O (σ:=Int) (λs1=>[(6,.val (TiZ s1))]) q O (λ_ s1 q=>by exact rS<|cL O O<|U 225 O<|A7<|gc O q (λ_ q=>AD<|A5<|A7<|AI<|rS<|cM<|cA<|U 105 O<|AB q λ_ h5 q=>BL q λ_ h7 q=>rS<|cM<|cM<|cP (MS X (aT O) (aT O) h5)<|cP (CV (aT O) aI)<|cM<|gV O O (ov 0 O on) (λ_=>oM O)<|gV O O (ov 3 O on) (λ_=>oM O)<|gV O O (oo 14 O id (oo 15 O id on)) (λV=>MS X (aT O) (aT O) (h7 V))<|gV O O (oo 16 O id on) (λ_=>C4 (aT O) aI)<|cP (Cf (aT O) O Ci)<|U 262241 O<|gc O q (λ_ q=>rS<|cB<|U 4 O<|AA (AV q O)) λ_ q=>AD (A5 (AB q λ_ BJ q=>by exact rK<|cH O BJ<|cO (oM O)<|U 97 O (cm q O)))) λ_ q=>Ai<|A5<|rS<|cM<|cP (zH (aT O) (Arg.s O))<|cA<|U 4 O<|AA (AV q O))
def sL{a0 r}(q:Sl a0=some r):AN 187 [TS a0] [Ar r]:=
 AP func187 O A4<|rS<|cB<|U 1 O<|AB q λ_ h2 q=>BL q λ_ h4 q=>rS<|cM<|cC (acQ h2) O<|cM<|gV O O (ov 0 O on) (λ_=>oM O)<|gV O O (oo 6 O id on) (λ_=>PH (aT O) (Arg.s O))<|gV O O (oo 7 O id on) (λ_=>oM O)<|gO O O (ov 0 O on) (λ_=>oM O)<|gO O O (oo 9 O id on) (λK5=>MS X (aT O) aI (h4 K5))<|gO O O (oo 10 O id on) (λ_=>Cx (aT O) aI)<|gV O O (oo 8 O id (ov 11 O on)) (λOM=>Cf (aT O) O (λh=>OI (id OM) (Ci h)))<|cP (Cd (aT O) O Ch)<|cA<|U 4 O<|AA (AV q O)
def abV{a0 a1 r}(q:jN a0 a1=some r):AN 206 [TS a0,TS a1] [Ar r]:=
 AP func206 O A4<|rS<|cB<|U 3 O<|AB q λ_ h2 q=>rS<|cM<|cM<|cC (jF h2) O<|cA<|cF [4] O<|AA (AV q O)
def abL{a0 a1 r}(q:jE a0 a1=some r):AN 255 [TS a0,TS a1] [TS r]:=
 AP func255 O A4<|rS<|cP (B9 (Arg.s O))<|U 3 O<|A7<|AB q λ_ h2 q=>rS<|cM<|cM<|cC (jF h2) O<|U 131 O<|gc O q (λ_ q=>AB q λ_ h5 q=>rS<|cM<|cM<|cP (EL X (aT O))<|cP (Gr X (aT O) (Lo.some (aT O)) Lo.none h5)<|cA<|cF [4] O<|AA (AV q O)) λ_ q=>AD<|A5<|rS<|cM<|cA<|cF [4] O<|AA (AV q O)
def qx{a0 a1 r}(q:aC a0 a1=some r):AN 207 [TS a0,TS a1] [TS r]:=
 AP func207 O A4<|rS<|cP (B9 (Arg.s O))<|U 3 O<|AB q λ_ h2 q=>rS<|cM<|cM<|cC (abL h2) O<|cA<|cF [4] O<|AA (AV q O)
def ace{a0 a1 r}(q:az a0 a1=some r):AN 214 [(TL (TI .u64)) a0,(TL (TI .u64)) a1] [(TL (TI .u64)) r]:=by
 refine AP func214 O A4<| ?_
 refine rS<|cP (B9 (Arg.nn (f:=(TI .u64))))<|U 3 O ?_
 obtain⟨x1,h2,x3,h4,q⟩:=b2 q;refine rS<|cM<|cJ Cz O<|cM<|cJ Cz O<|cP (CR (aT O) (aT O) h2)<|cP (PN (TI .u64) WW Px O (aT O) (aT O) h4)<|cS (CO O O (AU O) _ (Or.inl O))<|U 35 O ?_
 refine A7<|rS<|cM<|cJ Cz O<|cN<|U 7340066 O ?_
 refine AI<|Av [1,20,21] O (σ:=A3 Int×Int) (λs5=>[(5,.buf 255 1 (lT (TI .u64) s5.1)),(22,.val (TiZ s5.2))]) q O (λ_ s5 q=>?_)
 refine rS<|cL O O<|U 15728674 O ?_
 refine A7<|gc O q (λ_ q=>?_) λ_ q=>?_
 ·refine AD<|A5<|A7<|AI ?_
  obtain⟨x8,h9,q⟩:=Ao q;refine rS<|cM<|cP (oX CY (AM O) O O h9)<|cR O Cn<|cA<|cA<|U 7340258 O ?_
  refine rS<|cI<|U 7340514 O ?_
  refine A7<|rS<|cM<|cJ Cz O<|cN<|U 946864610 O ?_
  refine AI<|Av [1,6,7,20,21,22,27,28] O (σ:=A3 Int×Int×Int) (λCZ=>[(5,.buf 255 1 (lT (TI .u64) CZ.1)),(8,.val (TI .u64 CZ.2.1)),(29,.val (TiZ CZ.2.2))]) q O (λ_ CZ q=>?_)
  refine rS<|cL O O<|U 2020606434 O ?_
  refine A7<|gc O q (λ_ q=>?_) λ_ q=>?_
  ·refine AD<|A5<|A7<|AI ?_
   obtain⟨Bf,M,q⟩:=Ao q;refine rS<|cM<|cP (oX CY (AM O) O O M)<|cR O Cn<|cA<|cA<|U 946866146 O ?_
   obtain⟨BV,S,q⟩:=Ao q;refine rS<|cM<|cM<|cC (eI S) O<|cZ<|cE<|cE<|cA<|cA<|U 946871266 O ?_
   refine rS<|cI<|U 946871266 O ?_
   obtain⟨BW,W,Bg,Cw,C5,DZ,C7,DY,q⟩:=b4 q;refine rS<|cM<|cQ<|cM<|cM<|cP (CR (aT O) (aT O) W)<|cP (CT CY O O (aT O) Cw)<|cP (Et (f:=(TI .u64)) (λ_=>O) O O (Bv DZ) Cn)<|cP (PG (TH DY) (AL.cons (aT O) (AL.cons (aT O) (AL.cons aI AL.nil))))<|cZ<|cE<|cE<|cO (oA O)<|cA<|U 946879458 O ?_
   refine rS<|cM<|cM<|cP (MX (aT O) (aT O))<|cO (oA O)<|U 946871266 O ?_
   obtain⟨Cs,E3,q⟩:=Ao q;refine rS<|cM<|cM<|cP (PG (TH E3) (AL.cons (aT O) (AL.cons (aT O) (AL.cons aI AL.nil))))<|cZ<|cE<|cE<|cO (oA O)<|cA<|U 946879202 O ?_
   obtain⟨Ct,El,FT,GN,FD,Fy,q⟩:=b3 q;refine rK<|cQ<|cM<|cM<|cP (CR (aT O) (aT O) El)<|cM<|cM<|cM<|cP (MX (aT O) (aT O))<|cP (CT CY O O (aT O) GN)<|cS (Iz (f:=(TI .u64)) (λ_=>O) O O (Bv Fy) (aT O) Cn)<|cA<|U 946864610 O (A5 ?_)
   obtain⟨FU,Gq,q⟩:=Ao q;exact rK<|cH O Gq<|cO (oM O)<|U 946864610 O (cm q O)
  ·refine Ai (A5 ?_);obtain⟨FE,HR,Ez,Gp,Fk,Gn,q⟩:=b3 q;refine rK<|cQ<|cM<|cM<|cJ Cz O<|cP (CR (aT O) (aT O) HR)<|cM<|cP (CT CY O O (aT O) Gp)<|cS (Iz (f:=(TI .u64)) (λ_=>O) O O (Bv Gn) (aT O) Cn)<|U 7340066 O (A5 ?_)
   obtain⟨HG,KP,q⟩:=Ao q;exact rK<|cH O KP<|cO (oM O)<|U 7340066 O (cm q O)
 ·refine Ai (A5 ?_);obtain⟨H5,Hu,q⟩:=Ao q;refine rS<|cQ<|cG (CL (t:=5) O)<|cG (Ep (s:=78) O O)<|cC (R2 Hu) O<|cA<|cF [4] O ?_
  cases q;exact AA (r1 O)
def bI{a0 a1 r}(q:Sq a0 a1=some r):AN 142 [CD a0,CD a1] [CD r]:=
 AP func142 O A4<|rS<|cX<|cX<|cT EN<|U 28 O<|A7<|rS<|Bh 1 O LH O LR<|cP (M6 Cz (aT O))<|cM<|gV O O (ov 3 O on) (λ_=>FH O LH)<|gV O O (oo 15 O id (ov 3 O on)) (λ_=>oP 1 O O LR)<|gV O O (oo 16 O id on) (λ_=>M6 Cz (aT O))<|cP (Cd (aT O) O Ch)<|U 262172 O<|Cc [2,3] O (α:=(Int×A3 Int)) (λs1=>[(4,.own 93 (CD s1))]) q (λ_ q=>by exact gc O q (λ_ q=>Cu q λ_ h5 _ h7 _ h9 q=>gE 12 mixed<|dQ 0 O Fb O B<|dP [21] O (oC (l7 h5) O)<|dQ 0 O Fb O B<|dP [24] O (oC (l7 h7) O)<|dP [22,25] O (oC (eI h9) O)<|dP [26] O (Ot O)<|dP [19] O (H8 O O)<|dP [19] O (H8 O O)<|dP [27] O (oA O)<|dP [28] O (oA O)<|dN<|dE [2,3,4,5,6] O A4<|cD<|rS<|cM<|cP (CW (aT O) aI)<|cM<|gV O O (ov 6 O on) (λ_=>oM O)<|gV O O (oo 32 O id on) (λ_=>QH (aT O) aI)<|cP (Cd (aT O) O Ch)<|cF [2,3,4,6,34] O<|gc O q (λ_ q=>A7<|rS<|Bh 0 O Fb O B<|cP (CV (aT O) aI)<|Bh 0 O Fb O B<|cP (CV (aT O) aI)<|cP (nv Vg (aT O) (aT O))<|cF [4,6,41] O<|gc O q (λ_ q=>AB q λ_ P q=>rS<|cM<|cP (RH Vh SA (aT O))<|cP (nu (aT O) P)<|cP (bB EN MV O)<|cs O O O g<|cF [4] O<|AA (C1 q O g)) λ_ q=>AD<|A5<|rS<|cM<|cP (RH Vh SA (aT O))<|cP (bB EN MV O)<|cs O O O g<|cF [4] O<|AA (C1 q O g)) λ_ q=>AD (cm q O)) λ_ q=>AD (cm q O)) (λs1 q=>by exact A5<|AB q λ_ Q q=>rS<|cU O g<|cC (Pf Q) O<|cZ<|cE<|cE<|cA<|cA<|U 408 O<|AB q λ_ T q=>rS<|cU O g<|cC (Pf T) O<|cZ<|cE<|cE<|cA<|cA<|U 1936 O<|BE q λ_ CN _ h21 q=>rS<|cM<|cM<|cP (nv Vg (aT O) (aT O))<|cM<|cM<|cC (ace CN) O<|cC (Sv h21) O<|cs O O O g<|cF [4] O<|AA (C1 q O g))
def adC{a0 a1 r}(q:XO a0 a1=some r):AN 209 [CD a0,TiZ a1] [CD r]:=
 AP func209 O A4<|rS<|cX<|cT EN<|U 22 O<|AB q λ_ h2 q=>rS<|cC (Xv h2) O<|cT EN<|cs O O O g<|U 54 O<|A7<|AI<|Av [4] O (σ:=Int×(Int×A3 Int)×(Int×A3 Int)) (λs3=>[(1,.val (TiZ s3.1)),(2,.own 93 (CD s3.2.1)),(5,.own 93 (CD s3.2.2))]) q O (λ_ s3 q=>by exact A7<|rS<|cM<|cP (C4 (aT O) aI)<|U 310 O<|gc O q (λ_ q=>AD<|A5<|A7<|Cc [1,4] O (α:=(Int×A3 Int)×(Int×A3 Int)) (λs6=>[(2,.own 93 (CD s6.1)),(5,.own 93 (CD s6.2))]) q (λ_ q=>by exact AI<|A7<|rS<|cM<|cP (o5 (aT O) aI)<|cP (CW (aT O) aI)<|U 8246 O<|Cc [1,2,4] O (α:=(Int×A3 Int)) (λs8=>[(5,.own 93 (CD s8))]) q (λ_ q=>by exact gc O q (λ_ q=>AB q λ_ Bm q=>by exact rK<|cU O g<|cU O g<|cC (bI Bm) O<|cs O O O g<|U 54 O (cm q O)) λ_ q=>AD (cm q O)) (λs8 q=>by exact A5<|rS<|cM<|cP (C4 (aT O) aI)<|U 262198 O<|gc O q (λ_ q=>AB q λ_ Q q=>by exact rK<|cU O g<|cU O g<|cC (bI Q) O<|cs O O O g<|U 54 O (cm q O)) λ_ q=>AD (cm q O))) (λs6 q=>by exact A5<|AB q λ_ T q=>by exact rK<|cM<|cP (Th (aT O) aI T)<|cO (oA O)<|U 54 O (cm q O))) λ_ q=>Ai<|A5<|rS<|cU O g<|cs O O O g<|cF [4] O<|AA (C1 q O g))
def af9{a0 r}(q:cd a0=some r):AN 141 [TS a0] [CD r]:=
 AP func141 O A4<|rS<|cT EN<|U 5 O<|AB q λ_ h2 q=>rS<|cM<|cP (Fa (abV h2) (AL.cons (aT O) (AL.cons (Arg.s O) AL.nil)))<|cA<|U 13 O<|AB q λ_ h4 q=>rS<|cM<|cP (Fa (qx h4) (AL.cons (aT O) (AL.cons (Arg.s O) AL.nil)))<|cO (oA O)<|U 13 O<|rS<|cP (bB EN MV O)<|cT EN<|cs O O O g<|U 29 O<|A7<|AI<|Av [2,3] O (σ:=A9×(Int×A3 Int)) (λs5=>[(0,.val (TS s5.1)),(4,.own 93 (CD s5.2))]) q O (λ_ s5 q=>by exact A7<|rS<|cM<|cP (EL X (aT O))<|cP (C4 (aT O) aI)<|U 32797 O<|gc O q (λ_ q=>AD<|A5<|AI<|rS<|cM<|cP (EL X (aT O))<|cP (xv aI (aT O))<|cA<|U 61 O<|BE q λ_ h9 _ BO q=>rS<|cM<|cM<|cP (Gr X (aT O) Lo.none (Lo.some (aT O)) h9)<|cC (amF BO) O<|cZ<|cE<|cE<|cA<|cA<|U 125 O<|KR q λ_ P _ Q _ T _ CN _ h21 q=>gE 9 mixed<|dP [4] O (An O g)<|dP [] O (oC (Xv P) O)<|dP [5] O (oM O)<|dP [27,28] O (oC (adC Q) O)<|dP [26,29] O (oC (bI T) O)<|dP [6] O (oM O)<|dP [31] O (oC (Xv CN) O)<|dP [30,32] O (oC (bJ h21) O)<|dS [4,33] O (ds O O O g)<|dN<|dE [0,2,3,4,5] O A4<|cD<|AB q λ_ E4 q=>by exact rK<|cM<|cM<|cP (Gr X (aT O) (Lo.some (aT O)) Lo.none E4)<|cO (oA O)<|U 29 O (cm q O)) λ_ q=>Ai<|A5<|A7<|rS<|cM<|cF [2,4,37] O<|gc O q (λ_ q=>AB q λ_ E3 q=>rS<|cU O g<|cC (Qq E3) O<|cs O O O g<|U 4 O<|AA (C1 q O g)) λ_ q=>AD<|A5<|rS<|cU O g<|cs O O O g<|U 4 O<|AA (C1 q O g))
def nR{H:HV}{z:Int}{v:AO}(h:(Dv z).ok H v):∃r,CH r z/\(CD r).ok H v:=h
def Wa{f:FuncId}{x y:Int}{BP:A3 Ty}(hc:GA prog f=true)(h:∀r s,CH r x->CH s y->∃Mb,EE prog f [CD r,CD s] (.vs Mb)/\∀H v,Kr H Mb v->Kr H BP v):EE prog f [Dv x,Dv y] (.vs BP):=
 Xy hc λH vs Al=>by
  obtain⟨u,v,rfl,hu,hv⟩:=TK Al;obtain⟨r,hr,hru⟩:=nR hu;obtain⟨s,hs,hsv⟩:=nR hv;obtain⟨Mb,h1,h2⟩:=h r s hr hs;exact⟨[CD r,CD s],Mb,⟨u,[v],rfl,hru,v,[],rfl,hsv,rfl⟩,h1,h2⟩
def nT{H:HV}{z:Int}{v:AO}{r:Int×A3 Int}(h:CH r z)(k:(CD r).ok H v):(Dv z).ok H v:=⟨r,h,k⟩
def SN{z:Int}{q:Int×A3 Int}(h:CH q z):∀(H:HV) (v:AO),Kr H [CD q] v->Kr H [Dv z] v:=λH v k=>nT h k
def ie{x y:Int}{r:Int}(hm:PX x y=some r):AN 120 [Dv x,Dv y] [Dv r]:=by
 obtain⟨hb,rfl⟩:=Gf hm;obtain⟨h1,h2⟩:=DQ hb;exact Wa A4 λr s hr hs=>by obtain⟨q,e,hq⟩:=y7 hr hs h1 h2;exact⟨_,uz e,SN hq⟩
def ZQ{x:A9}{r:Int}(hm:J5 x=some r):AN 141 [TS x] [Dv r]:=by
 obtain⟨q,e,hq⟩:=aij hm;have:=af9 e;exact Xy A4 λH vs Al=>⟨_,_,Al,this,SN hq⟩
def Wb{f:FuncId}{x:Int}{BP:A3 Ty}(hc:GA prog f=true)(h:∀r,CH r x->∃Mb,EE prog f [CD r] (.vs Mb)/\∀H v,Kr H Mb v->Kr H BP v):EE prog f [Dv x] (.vs BP):=
 Xy hc λH vs Al=>by
  obtain⟨u,rfl,hu⟩:=Ns Al;obtain⟨r,hr,hru⟩:=nR hu;obtain⟨Mb,h1,h2⟩:=h r hr;exact⟨[CD r],Mb,⟨u,[],rfl,hru,rfl⟩,h1,h2⟩
def oq{x:Int}{r:Int×Bool}(hm:QN x=some r):AN 122 [Dv x] [TI .i64 r.1,Ar r.2]:=by
 obtain⟨hb,rfl⟩:=Gf hm;rw[F6,HB] at hb;exact Wb A4 λr hr=>⟨_,acD (ah6 hr hb),λ_ _ h=>h⟩
def sN{a0 r}(q:Sm a0=some r):AN 126 [TS a0] [TiZ r]:=
 AP func126 O A4<|rS<|cI<|U 1 O<|AB q λ_ h2 q=>rS<|cM<|cP (Fa (zw h2) (AL.cons (aT O) (AL.cons (Arg.s O) AL.nil)))<|cZ<|cE<|cE<|cE<|cA<|cA<|cA<|U 56 O<|AB q λ_ h4 q=>rS<|cM<|cP (Fa (abW h4) (AL.cons (aT O) (AL.cons (Arg.s O) AL.nil)))<|cZ<|cE<|cE<|cA<|cA<|U 240 O<|A7<|AB q λ_ h6 q=>BL q λ_ h8 q=>rS<|cM<|cC (sL h6) O<|cP (DH (aT O))<|cM<|gV O O (ov 7 O on) (λ_=>oM O)<|gV O O (oo 25 O id on) (λ_=>oM O)<|gO O O (ov 6 O on) (λ_=>oM O)<|gO O O (oo 27 O id on) (λ_=>PH (aT O) (Arg.s O))<|gV O O (oo 26 O id (ov 28 O on)) (λK5=>Cd (aT O) O (λh=>OI (id K5) (Ch h)))<|cP (Cf (aT O) O Ci)<|cM<|gV O O (ov 5 O on) (λ_=>oM O)<|gV O O (oo 32 O id on) (λ_=>oM O)<|gO O O (ov 4 O on) (λ_=>oM O)<|gO O O (oo 34 O id on) (λOT=>oC (sL (h8 OT)) O)<|gO O O (oo 35 O id on) (λ_=>DH (aT O))<|gO O O (oo 36 O id on) (λ_=>oM O)<|gO O O (ov 4 O on) (λ_=>oM O)<|gO O O (oo 38 O id on) (λ_=>PH (aT O) (Arg.s O))<|gO O O (oo 37 O id (ov 39 O on)) (λZN=>Cf (aT O) O (λh=>OI (id ZN) (Ci h)))<|gO O O (oo 40 O id on) (λ_=>oM O)<|gO O O (ov 4 O on) (λ_=>oM O)<|gO O O (oo 42 O id on) (λ_=>PH (aT O) (Arg.s O))<|gO O O (oo 41 O id (ov 43 O on)) (λpE=>Cf (aT O) O (λh=>OI (id pE) (Ci h)))<|gV O O (oo 33 O id (ov 44 O on)) (λpY=>Cd (aT O) O (λh=>OI (id pY) (Ch h)))<|cP (Cf (aT O) O Ci)<|cF [4,5,6,46] O<|gc O q (λ_ q=>rS<|cI<|U 4 O<|AA (AV q O)) λ_ q=>AD<|A5<|A7<|rS<|cM<|cP (EL X (aT O))<|cP (C4 (aT O) aI)<|cM<|gV O O (ov 4 O on) (λ_=>oM O)<|gV O O (oo 51 O id on) (λ_=>EL X (aT O))<|gV O O (oo 52 O id on) (λ_=>C4 (aT O) aI)<|cP (Cf (aT O) O Ci)<|cF [4,5,6,54] O<|gc O q (λ_ q=>rS<|cI<|U 4 O<|AA (AV q O)) λ_ q=>AD<|A5<|A7<|rS<|cM<|cF [4,6,55] O<|Ry (α:=Unit) (λ_=>[]) q (λ_ q=>by exact gc O q (λ_ q=>Ir q λ_ Q _ T _ CN _ h21 q=>rS<|cM<|cC (ZQ Q) O<|cM<|cC (ZQ T) O<|cC (ie CN) O<|cC (oq h21) O<|cZ<|cE<|cE<|cA<|cA<|U 768 O<|rS<|cM<|cP (DH (aT O))<|cM<|gV O O (ov 8 O on) (λ_=>oM O)<|gV O O (oo 68 O id on) (λ_=>Cx (aT O) aI)<|cP (Cf (aT O) O Ci)<|cF [70] O<|gc O q (λ_ q=>rS<|cI<|U 4 O<|AA (AV q O)) λ_ q=>AD (cm q O)) λ_ q=>AD (cm q O)) (λ_ q=>by exact A5<|rS<|cI<|U 4 O<|AA (AV q O))
def ad2{a0 r}(q:bL a0=some r):AN 123 [(TL TiZ) a0] [TiZ r]:=
 AP func123 O A4<|rS<|cI<|U 1 O<|A7<|rS<|cM<|cJ yN O<|cN<|U 224 O<|AI<|Av [5,6] O (σ:=Int) (λs1=>[(7,.val (TiZ s1))]) q O (λ_ s1 q=>by exact rS<|cL O O<|U 480 O<|A7<|gc O q (λ_ q=>AD<|A5<|A7<|AI<|AB q λ_ h5 q=>rS<|cP (oX zA (AM O) O O h5)<|cR O aa3<|cA<|U 240 O<|rS<|cM<|cP (Cx (aT O) aI)<|U 4336 O<|gc O q (λ_ q=>rS<|cM<|cA<|U 4 O<|AA (AV q O)) λ_ q=>AD (A5 (AB q λ_ h8 q=>by exact rK<|cH O h8<|cO (oM O)<|U 224 O (cm q O)))) λ_ q=>Ai<|A5<|rS<|cI<|U 4 O<|AA (AV q O))
def aae{x:Int}{r:Int}(hm:qp x=some r):AN 121 [Dv x] [Dv r]:=by
 have hm:=Dg hm;subst hm;exact Wb A4 λr hr=>by obtain⟨q,e,hq⟩:=oB hr;exact⟨_,kK e,SN hq⟩
def sOf{x r:Int}(hm:aOf x=some r):AN 119 [TI .i64 x] [Dv r]:=by
 have h1:DB x/\x=r:=by
  unfold aOf AE at hm;cases hb:Hm x
  ·rw[hb] at hm;cases hm
  ·rw[hb] at hm;refine⟨?_,Dg hm⟩;unfold Hm at hb;obtain⟨a,b⟩:=DQ hb;exact⟨AZ a,AZ b⟩
 obtain⟨h1,rfl⟩:=h1;have:=Xv (a0:=x) (r:=(x,[])) rfl;exact Xy A4 λH vs Al=>⟨_,_,Al,this,SN (.inl ⟨rfl,rfl,h1⟩)⟩
def zx{x:Int}{r:Int}(hm:pq x=some r):AN 125 [Dv x] [TI .i64 r]:=by
 have hm:=Dg hm;subst hm;exact Wb A4 λr hr=>⟨_,UN (V7 hr),λ_ _ h=>h⟩
def jR{a0 r}(q:Mn a0=some r):AN 55 [Ah a0] [TiZ r]:=
 AP func55 O A4<|rS<|cX<|cI<|U 2 O<|AB q λ_ h2 q=>rS<|cC (sOf h2) O<|cT EN<|cs O O O g<|U 10 O<|rS<|cB<|U 26 O<|A7<|rS<|Bh 0 O FL O IY<|cN<|U 6170 O<|AI<|Av [1,11] O (σ:=Int×Bool×Int) (λs3=>[(3,.own 93 (Dv s3.1)),(4,.val (Ar s3.2.1)),(12,.val (TiZ s3.2.2))]) q O (λ_ s3 q=>by exact rS<|cP (CV (aT O) aI)<|U 14362 O<|A7<|gc O q (λ_ q=>AD<|A5<|A7<|AI<|AB q λ_ h7 q=>rS<|cP (YM (f:=TiZ) (l:=([a0.1.1,a0.1.2.1,a0.1.2.2]:A3 Int)) an5 B (λ_=>O) O (aT O) (aT O) h7)<|cA<|U 6234 O<|Cu q λ_ h9 _ BO _ P q=>gE 6 mixed<|dP [3] O (An O g)<|dP [6] O (oM O)<|dP [16] O (oC (sOf h9) O)<|dP [17] O (oC (aae BO) O)<|dP [15,18] O (oC (ie P) O)<|dS [3,19] O (ds O O O g)<|dN<|dE [1,3,4,6,11,12] O A4<|cD<|by exact rK<|cM<|cM<|gV O O (ov 6 O on) (λ_=>oM O)<|gV O O (oo 22 O id on) (λ_=>C4 (aT O) aI)<|cP (Cf (aT O) O Ci)<|cM<|gV O O (ov 6 O on) (λ_=>oM O)<|gV O O (oo 26 O id on) (λ_=>CV (aT O) aI)<|cP (Cf (aT O) O Ci)<|cO (oA O)<|U 6170 O (A5 (AB q λ_ Q q=>by exact rK<|cH O Q<|cO (oM O)<|U 6170 O (cm q O)))) λ_ q=>Ai (A5 (AB q λ_ T q=>rS<|cU O g<|cC (oq T) O<|cZ<|cE<|cE<|cA<|cA<|U 410 O<|Iq q λ_ CN _ h21 _ E4 _ Fz _ GO _ FX q=>gE 19 mixed<|dP [3] O (An O g)<|dP [35] O (oC (zx CN) O)<|dP [36] O (CW (aT O) aI)<|dP [37] O (oC (kS h21) O)<|dP [4] O (oM O)<|dP [39] O (oC (kS E4) O)<|dP [8] O (oM O)<|dP [41] O (DH (aT O))<|dP [42] O (oM O)<|dV [7,43] O O O (ov 7 O on) (λ_=>oM O)<|dV [43,44] O O O (oo 44 O id on) (λ_=>Cx (aT O) aI)<|dP [43,45] O (Cf (aT O) O Ci)<|dP [46] O (oC (kS Fz) O)<|dQ 1 O Ka O Z<|dP [49] O (oC (sN GO) O)<|dP [38,40,47,50] O (bS Z4 ZO O O)<|dP [51] O (oC (ad2 FX) O)<|dP [52] O (oA O)<|dN<|dE [2] O A4<|cD<|AA (AV q O))))
def rA{a0 r}(q:Wj a0=some r):AN 31 [(TL Ah) a0] [TiZ r]:=
 AP func31 O A4<|rS<|cI<|U 1 O<|A7<|rS<|cM<|cJ Fp O<|cN<|U 448 O<|AI<|Av [6,7] O (σ:=Int) (λs1=>[(8,.val (TiZ s1))]) q O (λ_ s1 q=>by exact rS<|cL O O<|U 960 O<|A7<|gc O q (λ_ q=>AD<|A5<|A7<|AI<|AB q λ_ h5 q=>rS<|cP (oX Fg (AM O) O O h5)<|cR O DT<|cT Iw<|cs O O O DT<|U 464 O<|AB q λ_ h7 q=>rS<|cU O DT<|cC (jR h7) O<|cA<|U 480 O<|rS<|cM<|cP (Cx (aT O) aI)<|U 33248 O<|gc O q (λ_ q=>rS<|cM<|cA<|U 4 O<|AA (AV q O)) λ_ q=>AD (A5 (AB q λ_ BJ q=>by exact rK<|cH O BJ<|cO (oM O)<|U 448 O (cm q O)))) λ_ q=>Ai<|A5<|rS<|cI<|U 4 O<|AA (AV q O))
def rZ{a0 r}(q:X3 a0=some r):AN 204 [TiZ a0] [Ar r]:=by
 unfold X3 at q;exact AP func204 O A4<|rS<|cB<|U 1 O<|rS<|cM<|cM<|cP (Cx (aT O) (aT O))<|cA<|U 4 O<|AA (AV q O)
def jU{a0 a1 r}(q:UD a0 a1=some r):AN 138 [TiZ a0,TiZ a1] [TiZ r]:=
 AP func138 O A4<|rS<|cI<|U 3 O<|AB q λ_ h2 q=>rS<|cM<|cC (rZ h2) O<|cA<|U 35 O<|AB q λ_ h4 q=>rS<|cM<|cC (rZ h4) O<|cA<|U 99 O<|A7<|rS<|cM<|U 2115 O<|gc O q (λ_ q=>A7<|rS<|cM<|cF [12] O<|gc O q (λ_ q=>rS<|cI<|cF [4] O<|AA (AV q O)) λ_ q=>AD<|A5<|rS<|cI<|cF [4] O<|AA (AV q O)) λ_ q=>AD<|A5<|A7<|rS<|cM<|U 8195 O<|gc O q (λ_ q=>rS<|cI<|cF [4] O<|AA (AV q O)) λ_ q=>AD<|A5<|A7<|rS<|cM<|cM<|cL O O<|U 65539 O<|gc O q (λ_ q=>rS<|cI<|cF [4] O<|AA (AV q O)) λ_ q=>AD<|A5<|A7<|rS<|cM<|cM<|cP (C4 (aT O) (aT O))<|cF [19] O<|gc O q (λ_ q=>rS<|cI<|cF [4] O<|AA (AV q O)) λ_ q=>AD<|A5<|rS<|cI<|cF [4] O<|AA (AV q O)
def kV{a0 r}(q:Ug a0=some r):AN 68 [(TL TiZ) a0] [TiZ r]:=
 AP func68 O A4<|rS<|cI<|U 1 O<|rS<|cI<|U 9 O<|A7<|rS<|cM<|cJ Cr O<|cN<|U 456 O<|AI<|Av [3,6,7] O (σ:=Int) (λs1=>[(8,.val (TiZ s1))]) q O (λ_ s1 q=>by exact rS<|cL O O<|U 968 O<|A7<|gc O q (λ_ q=>AD<|A5<|A7<|AI<|AB q λ_ h5 q=>rS<|cP (oX Cm (AM O) O O h5)<|cR O B<|cA<|U 488 O<|rS<|cM<|cM<|cP (Cx (aT O) (aT O))<|U 16872 O<|gc O q (λ_ q=>rS<|cM<|cA<|U 4 O<|AA (AV q O)) λ_ q=>AD (A5 (AB q λ_ h8 q=>by exact rK<|cH O h8<|cO (oM O)<|U 456 O (cm q O)))) λ_ q=>Ai<|A5<|rS<|cM<|cA<|U 4 O<|AA (AV q O))
def jk{a0 a1 r}(q:UQ a0 a1=some r):AN 69 [M4 a0,M4 a1] [TiZ r]:=
 AP func69 O A4<|rS<|cX<|cX<|cI<|U 12 O<|Ir q λ_ h2 _ h4 _ h6 _ h8 q=>gE 18 mixed<|dP [2] O (iO O GC O)<|dP [5,2] O (oP 0 O O B)<|dP [3] O (iO O GC O)<|dP [7,3] O (oP 0 O O B)<|dP [6,8] O (oC (jU h2) O)<|dP [2] O (iO O GC O)<|dP [10,2] O (oP 1 O O B)<|dP [3] O (iO O GC O)<|dP [12,3] O (oP 1 O O B)<|dP [11,13] O (oC (jU h4) O)<|dP [2] O (iO O GC O)<|dP [15,2] O (oP 2 O O B)<|dP [3] O (iO O GC O)<|dP [17,3] O (oP 2 O O B)<|dP [16,18] O (oC (jU h6) O)<|dP [9,14,19] O (bS Hi I6 O O)<|dP [20] O (oC (kV h8) O)<|dP [21] O (oA O)<|dN<|dE [4] O A4<|cD<|AA (AV q O)
def aeW{a0 r}(q:ko a0=some r):AN 140 [Dv a0] [Bb r]:=
 AP func140 O A4<|rS<|cX<|cT EK<|U 6 O<|BE q λ_ h2 _ h4 q=>gE 4 mixed<|dP [1] O (An O g)<|dP [] O (oC (sOf h2) O)<|dP [3,4] O (K3 (bB nL Z5 O) (pB h4))<|dS [2,5] O (ds O O O d)<|dN<|dE [2] O A4<|cD<|AA (C1 q O d)
def Z7{x:Int}{r:Rat}(hm:W6 x=some r):AN 140 [Dv x] [Bb r]:=by
 have hm:=Dg hm;subst hm;exact aeW (afo x)
def ajq{a0 r}(q:yC a0=some r):AN 75 [TiZ a0] [Bb r]:=
 AP func75 O A4<|rS<|cT EK<|U 5 O<|BE q λ_ h2 _ h4 q=>rS<|cM<|cC (sOf h2) O<|cC (Z7 h4) O<|cs O O O d<|U 4 O<|AA (C1 q O d)
def Ij{x:Int}{r:Rat}(hm:qF x=some r):AN 75 [TI .i64 x] [Bb r]:=by
 refine ajq ?_;unfold qF at hm;unfold yC aOf;cases h:AE x with
 |none=>rw[h] at hm;cases hm
 |some y=>rw[h] at hm;exact hm
def Pr{a0 a1 a2 r}(q:Mz a0 a1 a2=some r):AN 58 [TiZ a0,TiZ a1,TiZ a2] [Ap r]:=
 AP func58 O A4<|rS<|cT DM<|U 71 O<|Cu q λ_ h2 _ h4 _ h6 q=>rS<|cM<|cC (Ij h2) O<|cM<|cC (Ij h4) O<|cM<|cC (Ij h6) O<|cP (bA RM Y O O)<|cs O O O m<|cF [6] O<|AA (C1 q O m)
def Un{a0 r}(q:Ol a0=some r):AN 70 [TS a0] [Bb r]:=
 AP func70 O A4<|rS<|cT EK<|U 5 O<|AB q λ_ h2 q=>rS<|cM<|cP (Fa (zw h2) (AL.cons (aT O) (AL.cons (Arg.s O) AL.nil)))<|cZ<|cE<|cE<|cE<|cA<|cA<|cA<|U 60 O<|A7<|rS<|cM<|cP (DH (aT O))<|U 8220 O<|gc O q (λ_ q=>BE q λ_ h5 _ h7 q=>rS<|cM<|cC (ZQ h5) O<|cC (Z7 h7) O<|cs O O O d<|U 4 O<|AA (C1 q O d)) λ_ q=>AD (A5 (Cu q λ_ h9 _ BO _ P q=>rS<|cM<|cC (ZQ h9) O<|cM<|cC (ZQ BO) O<|cP (K3 (bB nL Z5 O) (pB P))<|cs O O O d<|U 4 O<|AA (C1 q O d)))
end
end Trn
