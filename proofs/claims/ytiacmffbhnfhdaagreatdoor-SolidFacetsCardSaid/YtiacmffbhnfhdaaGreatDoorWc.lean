/-
  Part of the proof of SolidFacets.
-/
import Derived.Test.YtiacmffbhnfhdaaGreatDoorWb
set_option maxRecDepth 100000
set_option maxHeartbeats 20000000
set_option linter.all false
open Go Go.RowKit Go.Proofs Go.Proofs.Tryz
namespace Trn
section
variable[D:DR]
def ub{a0 a1 r}(q:Y1 a0 a1=some r):E0 prog 316 [(TL (TI .u64)) a0,TiZ a1] (.fr 293 1 (lT (TI .u64) r)):=by
 refine AT func316 O A6<| ?_
 refine rS<|cP (C4 (TI .u64) 293 1)<|U 3 O ?_
 obtain⟨x1,h2,x3,h4,q⟩:=b2 q;refine rS<|cM<|cJ DM O<|cH O h2<|cP (Pc (TI .u64) Wo Q9 O (aT O) (aT O) h4)<|cS (CP O O (AZ O) _ (Or.inl O))<|U 35 O ?_
 refine A8<|rS<|cM<|cJ DM O<|cN<|U 28706 O ?_
 refine AH<|B2 [1,12,13] O (σ:=A3 Int×Int) (λs5=>[(5,.buf 293 1 (lT (TI .u64) s5.1)),(14,.val (TiZ s5.2))]) q O (λ_ s5 q=>?_)
 refine rS<|aV O<|U 61474 O ?_
 refine A8<|gc O q (λ_ q=>?_) λ_ q=>?_
 ·refine AF<|A7<|A8<|Cy [1,12,13,14] O (α:=(A3 Int)) (λs8=>[(5,.buf 293 1 (lT (TI .u64) s8))]) q (λ_ q=>?_) (λs8 q=>?_)
  ·refine AH ?_;obtain⟨B9,BZ,q⟩:=Ax q;refine rS<|cM<|cP (oX Cs (AM O) O O BZ)<|cR O D9<|cA<|cA<|U 28898 O ?_
   obtain⟨BI,Y,Bj,CA,BW,CE,Bz,CO,Bs,h21,q⟩:=b5 q;refine gE 10 mixed<|dP [5] O (Dc)<|dP [6] O (oM O)<|dP [19,20,5] O (Cj Cs O O (aT O) Y)<|dP [21,5] O (F7 (f:=(TI .u64)) (λ_=>O) O O (CC CA) D9)<|dP [7] O (oM O)<|dP [1] O (oM O)<|dP [23,24] O (Zl (aT O) (aT O) CE)<|dP [22,25] O (qh (aT O) (aT O))<|dP [19,20,5] O (Cj Cs O O (aT O) CO)<|dS [26,27,5] O (pI (f:=(TI .u64)) (λ_=>O) O O (CC h21) (aT O) D9)<|dN<|dE [1,5,6,7,12,13,14] O A6<|cD ?_
   refine rS<|cM<|cP (CF (aT O) aI)<|U 536899810 O ?_
   refine gc O q (λ_ q=>?_) λ_ q=>?_
   ·obtain⟨CJ,Dm,Cu,EL,D7,FK,Fc,GS,Fl,G9,q⟩:=b5 q;exact rK<|cQ<|cM<|cH O Dm<|cM<|cM<|cP (CQ aI (aT O) EL)<|cP (UC (aT O) (aT O) FK)<|cP (Cj Cs O O (aT O) GS)<|cS (JP (f:=(TI .u64)) (λ_=>O) O O (CC G9) (aT O) D9)<|U 28706 O (cm q O)
   ·exact AF (cm q O)
  ·refine A7 ?_;obtain⟨G2,Gt,q⟩:=Ax q;exact rK<|cH O Gt<|cO (oM O)<|U 28706 O (cm q O)
 ·refine Aj<|A7<|rS<|cQ<|cS (oH O O O (AZ O) _ (Or.inl O))<|cF [4] O ?_
  cases q;exact AE (SB O O O O)
def agm{ps qs:A3 AR}{a0:A3 Int}{a1:A3 Int}{r:A3 Int×Int}(q:eF a0 a1=some r):I9 prog 317 [] (.F3 293 ps qs (lT (TI .u64) a0)) (.F3 293 ps qs (lT (TI .u64) r.1)) [(TL (TI .u64)) a1] [(TI .u64) r.2]:=
 eI (N:=186) func317 O ntmps317 (by simp) apj O O λ_ v _ _ hk=>by exact M6 (sS [0,1,186] O)<|rS<|cI<|cF [0,1,186] O<|rS<|cM<|cJ DM O<|cA<|cF [0,1,5,186] O<|rS<|cI<|cI<|cF [0,1,5,186] O<|rS<|cI<|cF [0,1,5,8,186] O<|A8<|J2 q λ_ h2 _ h4 _ h6 _ h8 q=>gE 10 mixed<|dP [0] O (Dc)<|dP [5] O (oM O)<|dP [21,22,0] O (Mk Cs (Ej.same O) O (aT O) h2)<|dP [23,0] O (QZ (f:=(TI .u64)) (λ_=>O) O O (CC h4) D9)<|dP [1] O (oM O)<|dP [5] O (oM O)<|dP [26] O (CQ (aT O) aI h6)<|dP [25,27] O (oX Cs (AM O) O O h8)<|dP [28] O (BX (aT O) D9)<|dP [24,29] O (HX (aT O) (aT O))<|dN<|dE [0,1,5,8,30,186] O A6<|cD<|Cy [0,1,5,186] O (α:=Int×Int×Int) (λs9=>[(6,.val (TI .u64 s9.1)),(7,.val (TI .u64 s9.2.1)),(8,.val (TI .u64 s9.2.2))]) q (λ_ q=>by exact gc O q (λ_ q=>rS<|cI<|cF [0,1,5,6,186] O<|I6 q λ_ Y _ CA _ CE _ CO _ h21 _ EB q=>gD 16 mixed<|dP [0] O (Dc)<|dP [5] O (oM O)<|dP [33] O (CQ (aT O) aI Y)<|dP [32,34,0] O (Mk Cs (Ej.same O) O (aT O) CA)<|dP [35,0] O (QZ (f:=(TI .u64)) (λ_=>O) O O (CC CE) D9)<|dP [1] O (oM O)<|dP [5] O (oM O)<|dP [38] O (CQ (aT O) aI CO)<|dP [37,39] O (oX Cs (AM O) O O h21)<|dP [40] O (BX (aT O) D9)<|dP [36,41] O (PV (Tb EB) (AO.cons (aT O) (AO.cons (aT O) (AO.cons aI AO.nil))))<|dP [42] O (P8 O)<|dP [31] O (Hl O O)<|dP [31] O (Hl O O)<|dP [43] O (oA O)<|dP [44] O (oA O)<|dN<|dE [0,1,5,6,7,8,186] O A6<|cD (cm q O)) λ_ q=>I6 q λ_ Fg _ Ff _ FJ _ Fe _ HR _ Hk q=>BK q λ_ Jj _ J0 q=>gD 20 mixed<|dP [0] O (Dc)<|dP [5] O (oM O)<|dP [46,47,0] O (Mk Cs (Ej.same O) O (aT O) Fg)<|dP [48,0] O (QZ (f:=(TI .u64)) (λ_=>O) O O (CC Ff) D9)<|dP [0] O (Dc)<|dP [5] O (oM O)<|dP [51] O (CQ (aT O) aI FJ)<|dP [50,52,0] O (Mk Cs (Ej.same O) O (aT O) Fe)<|dP [53,0] O (QZ (f:=(TI .u64)) (λ_=>O) O O (CC HR) D9)<|dP [1] O (oM O)<|dP [5] O (oM O)<|dP [56] O (CQ (aT O) aI Hk)<|dP [55,57] O (oX Cs (AM O) O O Jj)<|dP [58] O (BX (aT O) D9)<|dP [49,54,59] O (oC (tS J0) O)<|dP [60] O (P8 O)<|dP [45] O (Hl O O)<|dP [45] O (Hl O O)<|dP [61] O (oA O)<|dP [62] O (oA O)<|dN<|dE [0,1,5,6,7,8,186] O A6<|cD (cm q O)) (λs9 q=>by exact A7<|A8<|Cy [0,1,5,186] O (α:=Int) (λD6=>[(6,.val (TI .u64 D6))]) q (λ_ q=>by exact AH<|B2 [0,1,5,186] O (σ:=Int×Int×Int) (λJe=>[(6,.val (TI .u64 Je.1)),(7,.val (TI .u64 Je.2.1)),(8,.val (TI .u64 Je.2.2))]) q O (λ_ Je q=>by exact A8<|rS<|cM<|cP (Cg (aT O) aI)<|cF [0,1,5,6,7,64,186] O<|gc O q (λ_ q=>AF<|A7<|AH<|Cr q λ_ h46 _ LK _ h50 q=>rS<|cM<|cM<|cM<|cP (CQ (aT O) aI h46)<|cP (oX Cs (AM O) O O LK)<|cR O D9<|cC (fY h50) O<|cZ<|cE<|cE<|cA<|cA<|cF [0,1,5,6,7,9,10,186] O<|A8<|BO q λ_ h52 q=>BO q λ_ Kk q=>BO q λ_ h56 q=>rS<|cM<|cM<|aV O<|cM<|aa O (aO 9 O) (λ_=>oM O)<|aa O (aO 7 O) (λ_=>oM O)<|aa O (oo 79 O id (an 80 O)) (λ_=>Cg (aT O) (aT O))<|aa O (an 81 O) (λ_=>oM O)<|gO O O (aO 10 O) (λ_=>oM O)<|gO O O (aO 0 O) (λ_=>Dc)<|gO O O (aO 5 O) (λ_=>oM O)<|gO O O (an 85 O) (λPf=>CQ (aT O) aI (h52 Pf))<|gO O O (oo 84 O id (oo 86 O id (aO 0 O))) (λLp=>Mk Cs (Ej.same O) O (aT O) (Kk Lp))<|gO O O (oo 87 O id (aO 0 O)) (λQU=>QZ (f:=(TI .u64)) (λ_=>O) O O (CC (h56 QU)) D9)<|gO O O (oo 83 O id (an 88 O)) (λ_=>QY (aT O) (aT O))<|aa O (oo 82 O id (aO 89 O)) (λOa=>CZ (aT O) O (λh=>L8 (id Oa) (Ce h)))<|cP (Cc (aT O) O Cf)<|cF [0,1,5,6,7,91,186] O<|gc O q (λ_ q=>Aj (cm q O)) λ_ q=>AF<|A7<|rS<|cM<|cP (PT (aT O) aI)<|cO (oA O)<|cF [0,1,5,6,7,186] O<|Cr q λ_ h59 _ h61 _ Gq q=>by exact rK<|cM<|cM<|cM<|cP (CQ (aT O) aI h59)<|cP (oX Cs (AM O) O O h61)<|cR O D9<|cP (PV (Tb Gq) (AO.cons (aT O) (AO.cons (aT O) (AO.cons aI AO.nil))))<|cZ<|cE<|cE<|cO (oA O)<|cA<|cF [0,1,5,6,7,8,186] O (cm q O)) λ_ q=>Aj (cm q O))) (λD6 q=>by exact A7<|rS<|cI<|cI<|cF [0,1,5,6,11,12,186] O<|A8<|rS<|cM<|cN<|cF [0,1,5,6,11,12,104,105,186] O<|AH<|B2 [1,5,6,104,186] O (σ:=A3 Int×Int×Int×Int) (λFF=>[(0,.F3 293 ps qs (lT (TI .u64) FF.1)),(11,.val (TI .u64 FF.2.1)),(12,.val (TI .u64 FF.2.2.1)),(105,.val (TiZ FF.2.2.2))]) q O (λ_ FF q=>by exact rS<|aV O<|cF [0,1,5,6,11,12,104,105,106,186] O<|A8<|gc O q (λ_ q=>AF<|A7<|A8<|AH<|rS<|cM<|cA<|cF [0,1,5,6,11,12,13,104,105,186] O<|BK q λ_ h68 _ h70 q=>rS<|cM<|cM<|cM<|cP (oX Cs (AM O) O O h68)<|cR O D9<|cC (fY h70) O<|cZ<|cE<|cE<|cA<|cA<|cF [0,1,5,6,11,12,13,14,15,104,105,186] O<|rS<|cI<|cF [0,1,5,6,11,12,13,14,15,104,105,186] O<|AD q λ_ h72 q=>rS<|cM<|cM<|cP (PV (Tb h72) (AO.cons (aT O) (AO.cons (aT O) (AO.cons aI AO.nil))))<|cZ<|cE<|cE<|cO (oA O)<|cA<|cF [0,1,5,6,11,13,14,15,16,104,105,186] O<|rS<|cM<|cM<|cP (Ml (aT O) (aT O))<|cA<|cF [0,1,5,6,11,12,13,15,104,105,186] O<|Kl q λ_ h74 _ h76 _ h78 _ h80 _ h82 q=>by exact rK<|cQ<|cM<|cQ<|cM<|cP (Mk Cs (Ej.same O) O (aT O) h74)<|cP (QZ (f:=(TI .u64)) (λ_=>O) O O (CC h76) D9)<|cM<|cM<|cP (PV (pN h78) (AO.cons (aT O) (AO.cons (aT O) (AO.cons (aT O) AO.nil))))<|cZ<|cE<|cE<|cP (Mk Cs (Ej.same O) O (aT O) h80)<|cS (qc (f:=(TI .u64)) (λ_=>O) O O (CC h82) (aT O) D9)<|cO (oA O)<|cF [0,1,5,6,11,12,104,105,186] O (A7 (AD q λ_ h84 q=>by exact rK<|cH O h84<|cO (oM O)<|cF [0,1,5,6,11,12,104,105,186] O (cm q O)))) λ_ q=>Aj (A7 (Kl q λ_ h86 _ h88 _ h90 _ h92 _ h94 q=>rS<|cQ<|cM<|cQ<|cM<|cP (Mk Cs (Ej.same O) O (aT O) h86)<|cP (QZ (f:=(TI .u64)) (λ_=>O) O O (CC h88) D9)<|cM<|cM<|cP (PV (pN h90) (AO.cons (aT O) (AO.cons (aT O) (AO.cons (aT O) AO.nil))))<|cZ<|cE<|cE<|cP (Mk Cs (Ej.same O) O (aT O) h92)<|cS (qc (f:=(TI .u64)) (λ_=>O) O O (CC h94) (aT O) D9)<|cO (oA O)<|cF [0,1,5,6,11,186] O<|A8<|rS<|cM<|cP (Cg (aT O) aI)<|cF [0,1,5,6,154,186] O<|gc O q (λ_ q=>rS<|cM<|cA<|cF [0,4,186] O<|by cases q;exact AE (abC hk O (AX.tmp O O AX.nil) O O O O)) λ_ q=>AF<|A7<|rS<|cI<|cF [0,1,5,6,17,186] O<|A8<|rS<|cM<|cN<|cF [0,1,5,6,17,156,157,186] O<|AH<|B2 [1,5,6,156,186] O (σ:=A3 Int×Int×Int) (λHL=>[(0,.F3 293 ps qs (lT (TI .u64) HL.1)),(17,.val (TI .u64 HL.2.1)),(157,.val (TiZ HL.2.2))]) q O (λ_ HL q=>by exact rS<|aV O<|cF [0,1,5,6,17,156,157,158,186] O<|A8<|gc O q (λ_ q=>AF<|A7<|A8<|AH<|rS<|cM<|cA<|cF [0,1,5,6,17,18,156,157,186] O<|I6 q λ_ R0 _ Ud _ Uc _ Qz _ Qy _ Qx q=>gD 18 mixed<|dP [0] O (Dc)<|dP [18] O (oM O)<|dP [0] O (Dc)<|dP [18] O (oM O)<|dP [163,164,0] O (Mk Cs (Ej.same O) O (aT O) R0)<|dP [165,0] O (QZ (f:=(TI .u64)) (λ_=>O) O O (CC Ud) D9)<|dP [1] O (oM O)<|dP [18] O (oM O)<|dP [167,168] O (oX Cs (AM O) O O Uc)<|dP [169] O (BX (aT O) D9)<|dP [17] O (oM O)<|dP [166,170,171] O (PV (Tb Qz) (AO.cons (aT O) (AO.cons (aT O) (AO.cons (aT O) AO.nil))))<|dP [172] O (P8 O)<|dP [160] O (Hl O O)<|dP [160] O (Hl O O)<|dP [161,162,0] O (Mk Cs (Ej.same O) O (aT O) Qy)<|dS [173,175,0] O (alr (f:=(TI .u64)) (λ_=>O) O O (CC Qx) (aT O) D9)<|dP [174] O (oA O)<|dN<|dE [0,1,5,6,17,156,157,186] O A6<|cD (A7 (AD q λ_ Qw q=>by exact rK<|cH O Qw<|cO (oM O)<|cF [0,1,5,6,17,156,157,186] O (cm q O)))) λ_ q=>Aj (A7 (J2 q λ_ Qv _ Ub _ Ua _ aj q=>rS<|cQ<|cM<|cP (Mk Cs (Ej.same O) O (aT O) Qv)<|cP (QZ (f:=(TI .u64)) (λ_=>O) O O (CC Ub) D9)<|cM<|cP (Ml (aT O) (aT O))<|cP (Mk Cs (Ej.same O) O (aT O) Ua)<|cS (qc (f:=(TI .u64)) (λ_=>O) O O (CC aj) (aT O) D9)<|cF [0,6,186] O<|rS<|cM<|cP (PT (aT O) aI)<|cA<|cF [0,4,186] O<|by cases q;exact AE (abC hk O (AX.tmp O O AX.nil) O O O O)))))))))
def ux{a0 a1 r}(q:YD a0 a1=some r):AP 267 [(TL (TI .u64)) a0,(TL (TI .u64)) a1] [(TL (TI .u64)) r.1,(TL (TI .u64)) r.2]:=by
 refine AT func267 O A6<| ?_
 refine rS<|cP (BG (Arg.nn (f:=(TI .u64))))<|cP (BG (Arg.nn (f:=(TI .u64))))<|U 3 O ?_
 refine A8 ?_;obtain⟨x1,h2,q⟩:=Ax q;refine rS<|cM<|cM<|cC (tM h2) O<|cP (Ci (aT O) aI)<|U 524291 O ?_
 refine gc O q (λ_ q=>?_) λ_ q=>?_
 ·refine rS<|cM<|cP (BG (Arg.nn (f:=(TI .u64))))<|cA<|U 48 O ?_
  cases q;exact AE (E3 (GQ (t:=4) O) (CG O O (AX.tmp O O (AX.tmp O O AX.nil))))
 ·refine AF<|A7<|A8<|rS<|cM<|cJ DM O<|cP (Cg (aT O) aI)<|cF [0,1,23] O ?_
  refine gc O q (λ_ q=>?_) λ_ q=>?_
  ·obtain⟨x5,h6,q⟩:=Ax q;refine rS<|cM<|cJ DM O<|cP (Pc (TI .u64) Wo Q9 O (aT O) (aT O) h6)<|cS (CP O O (AZ O) _ (Or.inl O))<|U 67 O ?_
   refine rS<|cI<|U 195 O ?_
   refine A8 ?_;obtain⟨x7,h8,q⟩:=Ax q;refine rS<|cM<|cJ DM O<|cP (CQ (aT O) aI h8)<|cA<|U 451 O ?_
   refine AH<|B2 [0,1] O (σ:=A3 Int×Int×Int) (λs9=>[(6,.buf 293 1 (lT (TI .u64) s9.1)),(7,.val (TI .u64 s9.2.1)),(8,.val (TiZ s9.2.2))]) q O (λ_ s9 q=>?_)
   refine A8<|rS<|cM<|cP (HX (aT O) aI)<|U 2147484099 O ?_
   refine gc O q (λ_ q=>?_) λ_ q=>?_
   ·refine AF<|A7<|A8<|AH ?_
    obtain⟨BI,Y,Bj,CA,BW,CE,Bz,CO,Bs,h21,q⟩:=b5 q;refine gD 17 mixed<|dP [6] O (Dc)<|dP [8] O (oM O)<|dP [7] O (oM O)<|dP [0] O (oM O)<|dP [8] O (oM O)<|dP [38,39] O (oX Cs (AM O) O O Y)<|dP [40] O (BX (aT O) D9)<|dP [1] O (oM O)<|dP [42] O (EX Cs (AM O) (aT O) aI CA)<|dP [43] O (BX (aT O) D9)<|dP [37,41,44] O (oC (tS CE) O)<|dP [45] O (P8 O)<|dP [34] O (Hl O O)<|dP [34] O (Hl O O)<|dP [35,36,6] O (Cj Cs O O (aT O) CO)<|dS [46,48,6] O (pI (f:=(TI .u64)) (λ_=>O) O O (CC h21) (aT O) D9)<|dP [47] O (oA O)<|dN<|dE [0,1,6,7,8] O A6<|cD (A7 ?_)
    obtain⟨DK,EB,q⟩:=Ax q;exact rK<|cM<|cP (CQ (aT O) aI EB)<|cO (oA O)<|U 451 O (cm q O)
   ·refine Aj (A7 ?_);obtain⟨Dg,Fg,FC,Ff,q⟩:=b2 q;refine rS<|cQ<|cG (CD (t:=6) O)<|cG (EO (s:=49) O O)<|cC (RO Fg) O<|cM<|cP (bS Q9 rA O O)<|cC (RO Ff) O<|cA<|cA<|U 48 O ?_
    cases q;exact AE (r2 O)
  ·refine AF (A7 ?_);obtain⟨Ep,FJ,EE,Fe,DS,HR,q⟩:=b3 q;refine rS<|cM<|cM<|cJ DM O<|cP (CQ (aT O) aI FJ)<|cP (oX Cs (AM O) O O Fe)<|cR O D9<|cC (aab HR) O<|cA<|U 515 O ?_
   obtain⟨GH,Hk,EJ,Jj,q⟩:=b2 q;refine rS<|cM<|cM<|cC (ub Hk) O<|cG (CD (t:=63) O)<|cC (RO Jj) O<|cA<|U 1537 O ?_
   obtain⟨H8,J0,q⟩:=Ax q;refine rS<|cM<|cM<|cC (ub J0) O<|cS (CP O O (AZ O) _ (Or.inl O))<|U 3585 O ?_
   refine rS<|cM<|cJ DM O<|cA<|U 7681 O ?_
   obtain⟨KZ,h41,Lr,h43,Nw,IZ,q⟩:=b3 q;refine rS<|cM<|cJ DM O<|cM<|cP (CQ (aT O) (aT O) h41)<|cH O h43<|cP (Pc (TI .u64) Wo Q9 O (aT O) (aT O) IZ)<|cS (CP O O (AZ O) _ (Or.inl O))<|U 15873 O ?_
   refine A8 ?_;obtain⟨Hy,JK,q⟩:=Ax q;refine rS<|cM<|cJ DM O<|cM<|cP (CQ (aT O) (aT O) JK)<|cA<|U 32256 O ?_
   refine AH<|B2 [9,10,12] O (σ:=A3 Int×A3 Int×Int) (λFo=>[(11,.buf 293 1 (lT (TI .u64) Fo.1)),(13,.buf 293 1 (lT (TI .u64) Fo.2.1)),(14,.val (TiZ Fo.2.2))]) q O (λ_ Fo q=>?_)
   refine A8<|rS<|cM<|cP (HX (aT O) aI)<|cF [9,10,11,12,13,14,81] O ?_
   refine gc O q (λ_ q=>?_) λ_ q=>?_
   ·refine AF<|A7<|A8<|AH ?_
    obtain⟨Ja,h52,H7,Kk,q⟩:=b2 q;obtain⟨h55,q⟩:=WM q;obtain⟨K3,h57,q⟩:=Ax q;obtain⟨h58,q⟩:=WM q;obtain⟨N0,h60,x61,h62,q⟩:=b2 q;refine rK<|cQ<|cM<|cQ<|cM<|cM<|cM<|cP (CY (aT O) (aT O) h52)<|cH O Kk<|cP (xU (f:=(TI .u64)) Cs (Ej.same O) O (Lo.some (aT O)) (Lo.some (aT O)) h55)<|cM<|cS (y9 (f:=(TI .u64)) (xs:=[]) (ys:=[.tmp 93]) (λ_=>O) (λ_ _ _=>agm h57) Ej.own O O h58 AO.nil (AO.cons (aT O) AO.nil) (AZ O) O)<|cP (Cj Cs O O (aT O) h60)<|cS (JP (f:=(TI .u64)) (λ_=>O) O O (CC h62) (aT O) D9)<|U 32256 O (A7 ?_)
    obtain⟨x63,h64,q⟩:=Ax q;exact rK<|cM<|cP (CQ (aT O) aI h64)<|cO (oA O)<|U 32256 O (cm q O)
   ·refine Aj<|A7<|A8<|rS<|cM<|cN<|cF [9,11,12,13,96,97] O ?_
    refine AH<|B2 [9,12,13,96] O (σ:=A3 Int×Int) (λEl=>[(11,.buf 293 1 (lT (TI .u64) El.1)),(97,.val (TiZ El.2))]) q O (λ_ El q=>?_)
    refine rS<|aV O<|cF [9,11,12,13,96,97,98] O ?_
    refine A8<|gc O q (λ_ q=>?_) λ_ q=>?_
    ·refine AF<|A7<|A8<|Cy [9,12,13,96,97] O (α:=(A3 Int)) (λs68=>[(11,.buf 293 1 (lT (TI .u64) s68))]) q (λ_ q=>?_) (λs68 q=>?_)
     ·refine AH<|rS<|cM<|cA<|cF [9,11,12,13,15,96,97] O ?_
      obtain⟨x70,h71,x72,h73,K5,h75,x76,h77,x78,h79,q⟩:=b5 q;refine rS<|cQ<|cM<|cP (Cj Cs O O (aT O) h71)<|cP (F7 (f:=(TI .u64)) (λ_=>O) O O (CC h73) D9)<|cM<|cP (UC (aT O) (aT O) h75)<|cP (Cj Cs O O (aT O) h77)<|cS (JP (f:=(TI .u64)) (λ_=>O) O O (CC h79) (aT O) D9)<|cF [9,11,12,13,15,96,97] O ?_
      obtain⟨x80,h81,q⟩:=LP q;refine rS<|cM<|cP (CF (aT O) aI)<|cM<|aa O (aO 15 O) (λ_=>oM O)<|aa O (an 110 O) (λhg2=>CY (aT O) aI (h81 hg2))<|aa O (aO 11 O) (λ_=>Dc)<|aa O (oo 112 O id (aO 11 O)) (λ_=>M1 DM O O)<|aa O (oo 111 O id (an 113 O)) (λ_=>Ci (aT O) (aT O))<|cP (CZ (aT O) O Ce)<|cF [9,11,12,13,15,96,97,115] O ?_
      refine gc O q (λ_ q=>?_) λ_ q=>?_
      ·obtain⟨x83,h84,x85,h86,x87,h88,K4,h90,x91,h92,x93,h94,q⟩:=b6 q;obtain⟨x95,h96,x97,h98,x99,R0,q⟩:=b3 q;exact gD 15 mixed<|dP [11] O (Dc)<|dP [15] O (oM O)<|dP [116,117,11] O (Cj Cs O O (aT O) h84)<|dP [118,11] O (F7 (f:=(TI .u64)) (λ_=>O) O O (CC h86) D9)<|dP [11] O (Dc)<|dP [15] O (oM O)<|dP [121] O (CY (aT O) aI h88)<|dP [120,122,11] O (Cj Cs O O (aT O) h90)<|dP [123,11] O (F7 (f:=(TI .u64)) (λ_=>O) O O (CC h92) D9)<|dP [9] O (oM O)<|dP [125] O (CQ aI (aT O) h94)<|dP [124,126] O (Zl (aT O) (aT O) h96)<|dP [119,127] O (qh (aT O) (aT O))<|dP [116,117,11] O (Cj Cs O O (aT O) h98)<|dS [128,129,11] O (pI (f:=(TI .u64)) (λ_=>O) O O (CC R0) (aT O) D9)<|dN<|dE [9,11,12,13,96,97] O A6<|cD (cm q O)
      ·exact AF (cm q O)
     ·refine A7 ?_;obtain⟨Oe,Ud,q⟩:=Ax q;exact rK<|cH O Ud<|cO (oM O)<|cF [9,11,12,13,96,97] O (cm q O)
    ·refine Aj<|A7<|A8<|Mi (CD (t:=13) O) ?_
     refine Mi (CD (t:=11) O) ?_;refine M6 (sS [9,11,12,13,96,97,98] O) ?_;obtain⟨Qq,Uc,Mt,Qz,Qp,Qy,q⟩:=b3 q;refine gD 8 mixed<|dP [13] O (oM O)<|dP [131] O (oC (RO Uc) O)<|dP [11] O (oM O)<|dP [12] O (oM O)<|dP [133,134] O (M0 Cs (AM O) (aT O) Lo.none (Lo.some (aT O)) Qz)<|dP [135] O (oC (RO Qy) O)<|dP [132] O (oA O)<|dP [136] O (oA O)<|dN<|dE [4,5] O A6<|cD (A7 ?_)
     cases q;exact AE (r2 O)
def aeK{a0 a1 r}(q:Xs a0 a1=some r):AP 256 [(TL (TI .u64)) a0,(TL (TI .u64)) a1] [(TL (TI .u64)) r]:=by
 unfold Xs at q;refine AT func256 O A6<| ?_
 refine rS<|cP (BG (Arg.nn (f:=(TI .u64))))<|U 3 O ?_
 refine A8<|rS<|cM<|cJ DM O<|cM<|cJ DM O<|aV O<|U 8195 O ?_
 refine SA (α:=A3 Int×A3 Int) (λs1=>[(0,.val (TL (TI .u64) s1.1)),(1,.val (TL (TI .u64) s1.2))]) q (λ_ q=>?_) (λs1 q=>?_)
 ·refine gc O q (λ_ q=>?_) λ_ q=>?_
  ·exact rK<|cM<|cM<|cO (oA O)<|cO (oA O)<|U 3 O (cm q O)
  ·exact AF (cm q O)
 ·refine A7 ?_;obtain⟨x4,h5,x6,h7,q⟩:=b2 q;refine rS<|cM<|cJ DM O<|cH O h5<|cP (Pc (TI .u64) Wo Q9 O (aT O) (aT O) h7)<|cS (CP O O (AZ O) _ (Or.inl O))<|U 35 O ?_
  refine rS<|cI<|U 99 O ?_
  refine A8<|rS<|cM<|cJ DM O<|cN<|U 6291555 O ?_
  refine AH<|B2 [0,1,21] O (σ:=A3 Int×Int×Int) (λs8=>[(5,.buf 293 1 (lT (TI .u64) s8.1)),(6,.val (TI .u64 s8.2.1)),(22,.val (TiZ s8.2.2))]) q O (λ_ s8 q=>?_)
  refine rS<|aV O<|U 14680163 O ?_
  refine A8<|gc O q (λ_ q=>?_) λ_ q=>?_
  ·refine AF<|A7<|A8<|AH<|rS<|cM<|cA<|U 6291683 O ?_
   refine rS<|cI<|U 6291939 O ?_
   refine A8<|rS<|cM<|cM<|cJ DM O<|aV O<|U 274727395 O ?_
   refine Cy [0,1,5,6,7,21,22] O (α:=Int) (λHz=>[(8,.val (TI .u64 Hz))]) q (λ_ q=>?_) (λHz q=>?_)
   ·refine gc O q (λ_ q=>?_) λ_ q=>?_
    ·obtain⟨Bj,CA,q⟩:=Ax q;exact rK<|cM<|cM<|cP (oX Cs (AM O) O O CA)<|cR O D9<|cO (oA O)<|U 6291939 O (cm q O)
    ·exact AF (cm q O)
   ·refine A7 ?_;obtain⟨BW,CE,Bz,CO,Bs,h21,DK,EB,q⟩:=b4 q;refine rK<|cQ<|cM<|cM<|cM<|cP (oX Cs (AM O) O O CE)<|cR O D9<|cM<|cM<|cP (PV (Tb CO) (AO.cons (aT O) (AO.cons (aT O) (AO.cons (aT O) AO.nil))))<|cZ<|cE<|cE<|cP (Cj Cs O O (aT O) h21)<|cS (JP (f:=(TI .u64)) (λ_=>O) O O (CC EB) (aT O) D9)<|cO (oA O)<|U 6291555 O (A7 ?_)
    obtain⟨Dg,Fg,q⟩:=Ax q;exact rK<|cH O Fg<|cO (oM O)<|U 6291555 O (cm q O)
  ·refine Aj (A7 ?_);obtain⟨FC,Ff,Ep,FJ,q⟩:=b2 q;refine rS<|cQ<|cM<|cJ DM O<|cM<|cP (Cj Cs O O (aT O) Ff)<|cS (JP (f:=(TI .u64)) (λ_=>O) O O (CC FJ) (aT O) D9)<|cF [5] O ?_
   obtain⟨EE,Fe,q⟩:=Ax q;refine rS<|cQ<|cG (CD (t:=5) O)<|cG (EO (s:=52) O O)<|cC (RO Fe) O<|cA<|cF [4] O ?_
   cases q;exact AE (r1 O)
def uJ{a0 a1 r}(q:Xr a0 a1=some r):AP 258 [(TL (TI .u64)) a0,(TL (TI .u64)) a1] [(TL (TI .u64)) r]:=by
 refine AT func258 O A6<| ?_
 refine rS<|cP (BG (Arg.nn (f:=(TI .u64))))<|U 3 O ?_
 obtain⟨x1,h2,q⟩:=Ax q;refine rS<|cM<|cJ DM O<|cP (Pc (TI .u64) Wo Q9 O (aT O) (aT O) h2)<|cS (CP O O (AZ O) _ (Or.inl O))<|U 35 O ?_
 refine rS<|cI<|U 99 O ?_
 refine A8<|rS<|cM<|cJ DM O<|cN<|U 24675 O ?_
 refine AH<|B2 [0,1,13] O (σ:=A3 Int×Int×Int) (λs3=>[(5,.buf 293 1 (lT (TI .u64) s3.1)),(6,.val (TI .u64 s3.2.1)),(14,.val (TiZ s3.2.2))]) q O (λ_ s3 q=>?_)
 refine rS<|aV O<|U 57443 O ?_
 refine A8<|gc O q (λ_ q=>?_) λ_ q=>?_
 ·refine AF<|A7<|A8<|AH<|rS<|cM<|cA<|U 24803 O ?_
  refine rS<|cI<|U 25059 O ?_
  refine A8<|rS<|cM<|cM<|cJ DM O<|aV O<|U 1073635 O ?_
  refine Cy [0,1,5,6,7,13,14] O (α:=Int) (λs6=>[(8,.val (TI .u64 s6))]) q (λ_ q=>?_) (λs6 q=>?_)
  ·refine gc O q (λ_ q=>?_) λ_ q=>?_
   ·obtain⟨x9,BS,q⟩:=Ax q;exact rK<|cM<|cM<|cP (oX Cs (AM O) O O BS)<|cR O D9<|cO (oA O)<|U 25059 O (cm q O)
   ·exact AF (cm q O)
  ·refine A7 ?_;obtain⟨B3,W,Bg,X,Be,C9,BY,CN,q⟩:=b4 q;refine rK<|cQ<|cM<|cM<|cM<|cP (oX Cs (AM O) O O W)<|cR O D9<|cM<|cM<|cP (PV (pN X) (AO.cons (aT O) (AO.cons (aT O) (AO.cons (aT O) AO.nil))))<|cZ<|cE<|cE<|cP (Cj Cs O O (aT O) C9)<|cS (JP (f:=(TI .u64)) (λ_=>O) O O (CC CN) (aT O) D9)<|cO (oA O)<|U 24675 O (A7 ?_)
   obtain⟨Bi,Cq,q⟩:=Ax q;exact rK<|cH O Cq<|cO (oM O)<|U 24675 O (cm q O)
 ·refine Aj (A7 ?_);obtain⟨C5,DT,q⟩:=Ax q;refine rS<|cQ<|cG (CD (t:=5) O)<|cG (EO (s:=39) O O)<|cC (RO DT) O<|cA<|cF [4] O ?_
  cases q;exact AE (r1 O)
def dD{a0 a1 r}(q:T6 a0 a1=some r):AP 188 [CX a0,CX a1] [CX r]:=
 AT func188 O A6<|rS<|cX<|cX<|cT Ev<|U 28 O<|A8<|rS<|Bk 1 O LR O Le<|cP (Lb DM (aT O))<|cM<|aa O (aO 3 O) (λ_=>Fs O LR)<|aa O (oo 14 O id (aO 3 O)) (λ_=>bJ 1 O Le)<|aa O (an 15 O) (λ_=>Lb DM (aT O))<|cP (CZ (aT O) O Ce)<|U 131100 O<|Cy [2,3] O (α:=(Int×A3 Int)) (λs1=>[(4,.own 110 (CX s1))]) q (λ_ q=>by exact gc O q (λ_ q=>rS<|Bk 0 O GA O V<|Bk 0 O GA O V<|cP (Ml (aT O) (aT O))<|cA<|U 60 O<|rS<|cM<|Bk 0 O GA O V<|cP (CF (aT O) (aT O))<|Bk 0 O GA O V<|cP (CF (aT O) aI)<|cP (pY WJ (aT O) (aT O))<|U 1073741884 O<|gc O q (λ_ q=>rS<|cM<|cP (bB Ev Mb O)<|aS O M<|cF [4] O<|AE (CL q O M)) λ_ q=>AF (cm q O)) λ_ q=>AF (cm q O)) (λs1 q=>by exact A7<|AD q λ_ h6 q=>rS<|cU O M<|cC (Pp h6) O<|cZ<|cE<|cE<|cA<|cA<|U 216 O<|AD q λ_ h8 q=>rS<|cU O M<|cC (Pp h8) O<|cZ<|cE<|cE<|cA<|cA<|U 976 O<|A8<|AH<|rS<|cM<|cM<|cP (pY WJ (aT O) (aT O))<|cA<|cF [4,6,7,8,9,43] O<|gc O q (λ_ q=>BK q λ_ BZ _ Y q=>rS<|cM<|cM<|cM<|cC (aeK BZ) O<|cC (TG Y) O<|aS O M<|cF [4] O<|AE (CL q O M)) λ_ q=>AD q λ_ CA q=>rS<|cM<|cM<|cC (tM CA) O<|cP (HX (aT O) aI)<|cA<|cF [4,6,7,8,9,52] O<|gc O q (λ_ q=>BK q λ_ CN _ Cq q=>rS<|cM<|cM<|cM<|cC (uJ CN) O<|cC (TG Cq) O<|aS O M<|cF [4] O<|AE (CL q O M)) λ_ q=>AF (A7 (BK q λ_ DT _ Dm q=>rS<|cM<|cM<|cM<|cC (uJ DT) O<|cC (TG Dm) O<|aS O M<|cF [4] O<|AE (CL q O M))))
def ue{a0 a1 r}(q:Y2 a0 a1=some r):AP 255 [CX a0,CX a1] [CX r]:=
 AT func255 O A6<|rS<|cX<|cX<|cT Ev<|U 28 O<|BK q λ_ h2 _ h4 q=>gE 5 mixed<|dP [2] O (Ar O M)<|dP [3] O (Ar O M)<|dP [6] O (oC (RE h2) O)<|dP [5,7] O (oC (dD h4) O)<|dS [4,8] O (a_ O M)<|dN<|dE [4] O A6<|cD<|AE (CL q O M)
def td{a0 a1 r}(q:Xd a0 a1=some r):AP 197 [CX a0,CX a1] [CX r.1,CX r.2]:=
 AT func197 O A6<|rS<|cX<|cX<|cT Ev<|cT Ev<|U 60 O<|A8<|rS<|Bk 1 O LR O Le<|cP (Lb DM (aT O))<|cM<|aa O (aO 3 O) (λ_=>Fs O LR)<|aa O (oo 20 O id (aO 3 O)) (λ_=>bJ 1 O Le)<|aa O (an 21 O) (λ_=>Lb DM (aT O))<|cP (CZ (aT O) O Ce)<|cM<|aa O (aO 2 O) (λ_=>Fs O GA)<|aa O (oo 25 O id (aO 2 O)) (λ_=>bJ 0 O V)<|aa O (an 26 O) (λ_=>CR (aT O) aI)<|cP (CZ (aT O) O Ce)<|U 268435516 O<|gc O q (λ_ q=>BK q λ_ h3 _ h5 q=>gE 12 mixed<|dQ 0 O GA O V<|dQ 0 O GA O V<|dP [30,32] O (NG (aT O) (aT O) h3)<|dQ 0 O GA O V<|dQ 0 O GA O V<|dP [35,37] O (Ks (aT O) (aT O) h5)<|dP [33] O (oA O)<|dP [38] O (oA O)<|dN<|dE [3,4,5,6,7] O A6<|cD<|A8<|rS<|cM<|cP (Ci (aT O) aI)<|cF [3,4,5,6,7,40] O<|Cy [4,5] O (α:=Int×Int) (λs6=>[(6,.val (TiZ s6.1)),(7,.val (TiZ s6.2))]) q (λ_ q=>by exact gc O q (λ_ q=>BK q λ_ BS _ W q=>gD 8 mixed<|dP [6] O (oM O)<|dP [41] O (CQ (aT O) aI BS)<|dP [7] O (oM O)<|dQ 0 O GA O V<|dP [43,45] O (CY (aT O) (aT O) W)<|dP [42] O (oA O)<|dP [46] O (oA O)<|dN<|dE [4,5,6,7] O A6<|cD (cm q O)) λ_ q=>AF (cm q O)) (λs6 q=>by exact A7<|rS<|cM<|cP (bB Ev Mb O)<|cM<|cP (bB Ev Mb O)<|aS O M<|aS O M<|U 48 O<|by cases q;exact AE (CG O O (AX.cell O (FZ M) O (AX.cell O (FZ M) O AX.nil))))) λ_ q=>AF (A7 (AD q λ_ X q=>rS<|cU O M<|cC (Pp X) O<|cZ<|cE<|cE<|cA<|cA<|U 824 O<|AD q λ_ C9 q=>rS<|cU O M<|cC (Pp C9) O<|cZ<|cE<|cE<|cA<|cA<|U 2872 O<|AD q λ_ CN q=>rS<|cM<|cM<|cC (ux CN) O<|cZ<|cE<|cE<|cA<|cA<|U 12600 O<|BK q λ_ Cq _ DT q=>rS<|cM<|cM<|cC (TG Cq) O<|cM<|cM<|cC (TG DT) O<|cT Ev<|cT Ev<|aS O M<|aS O M<|U 49208 O<|A8<|AD q λ_ Dm q=>rS<|cU O M<|cC (Uy Dm) O<|cP (Ci (aT O) aI)<|cF [3,4,5,14,15,75] O<|Cy [4,5] O (α:=(Int×A3 Int)×(Int×A3 Int)) (λEK=>[(14,.own 110 (CX EK.1)),(15,.own 110 (CX EK.2))]) q (λ_ q=>by exact gc O q (λ_ q=>Cr q λ_ FJ _ Fe _ HR q=>gD 8 mixed<|dP [14] O (Ar O M)<|dP [] O (oC (Ye FJ) O)<|dP [76,77] O (oC (ue Fe) O)<|dP [15] O (Ar O M)<|dP [3] O (Ar O M)<|dP [79,80] O (oC (dD HR) O)<|dS [14,78] O (a_ O M)<|dS [15,81] O (a_ O M)<|dN<|dE [4,5,14,15] O A6<|cD (cm q O)) λ_ q=>AF (cm q O)) (λEK q=>by exact A7<|gE 4 mixed<|dP [14] O (Ar O M)<|dP [15] O (Ar O M)<|dS [4,82] O (a_ O M)<|dS [5,83] O (a_ O M)<|dN<|dE [4,5] O A6<|cD<|by cases q;exact AE (CG O O (AX.cell O (FZ M) O (AX.cell O (FZ M) O AX.nil))))))
def wx{a0 a1 r}(q:eh a0 a1=some r):AP 128 [CX a0,CX a1] [CX r]:=
 AT func128 O A6<|rS<|cX<|cX<|cT Ev<|U 28 O<|BK q λ_ h2 _ h4 q=>gE 6 mixed<|dP [2] O (Ar O M)<|dP [7] O (oC (lK h2) O)<|dP [3] O (Ar O M)<|dP [9] O (oC (lK h4) O)<|dS [2,8] O (a_ O M)<|dS [3,10] O (a_ O M)<|dN<|dE [2,3,4] O A6<|cD<|A8<|AH<|B2 [4] O (σ:=(Int×A3 Int)×(Int×A3 Int)) (λs5=>[(2,.own 110 (CX s5.1)),(3,.own 110 (CX s5.2))]) q O (λ_ s5 q=>by exact A8<|AD q λ_ h8 q=>rS<|cU O M<|cC (Uy h8) O<|cP (CR (aT O) aI)<|U 8220 O<|gc O q (λ_ q=>AF<|A7<|AH<|AD q λ_ BZ q=>rS<|cU O M<|cU O M<|cC (td BZ) O<|cZ<|cE<|cE<|cT Ev<|cT Ev<|aS O M<|aS O M<|U 92 O<|gD 4 mixed<|dP [3] O (Ar O M)<|dP [6] O (Ar O M)<|dS [2,20] O (a_ O M)<|dS [3,21] O (a_ O M)<|dN<|dE [2,3,4] O A6<|cD (cm q O)) λ_ q=>Aj<|A7<|rS<|cU O M<|aS O M<|cF [4] O<|AE (CL q O M))
def adv{a0 r}(q:br a0=some r):AP 130 [CX a0] [TiZ r.1,Ay r.2]:=by
 unfold br at q;exact AT func130 O A6<|rS<|cX<|cI<|cB<|U 2 O<|gE 7 mixed<|dQ 0 O GA O V<|dQ 1 O LR O Le<|dP [7] O (Lb DM (aT O))<|dP [5] O (oA O)<|dP [8] O (oA O)<|dN<|dE [2,3] O A6<|cD<|by cases q;exact AE (r2 O)
def lY{a0 a1 r}(q:Y7 a0 a1=some r):AP 132 [Ay a0,TiZ a1] [TiZ r]:=
 AT func132 O A6<|rS<|cI<|U 3 O<|A8<|rS<|cM<|U 34 O<|gc O q (λ_ q=>rS<|cM<|cA<|cF [4] O<|AE (Aa q O)) λ_ q=>AF<|A7<|rS<|cI<|cF [4] O<|AE (Aa q O)
def jt{a0 a1 r}(q:Nx a0 a1=some r):AP 304 [TS a0,TS a1] [Ay r]:=
 AT func304 O A6<|rS<|cB<|U 3 O<|BO q λ_ h2 q=>rS<|cM<|cP (Eh Ck (aT O))<|cM<|cP (Eh Ck (aT O))<|cP (HX (aT O) (aT O))<|cM<|aa O (aO 0 O) (λ_=>oM O)<|aa O (aO 1 O) (λ_=>oM O)<|aa O (an 12 O) (λ_=>Eh Ck (aT O))<|aa O (oo 11 O id (an 13 O)) (λJW=>HT Ck (aT O) Lo.none (Lo.some (aT O)) (h2 JW))<|aa O (aO 1 O) (λ_=>oM O)<|aa O (oo 14 O id (an 15 O)) (λ_=>PW (aT O) (aT O))<|cP (CZ (aT O) O Ce)<|cA<|cF [4] O<|AE (Aa q O)
def acv{a0 a1 r}(q:bI a0 a1=some r):AP 268 [TS a0,TS a1] [TS r.1,Ay r.2]:=
 AT func268 O A6<|rS<|cP (BG (Arg.s O))<|cB<|U 3 O<|A8<|AD q λ_ h2 q=>rS<|cM<|cM<|cC (jt h2) O<|cP (DU (aT O))<|U 515 O<|gc O q (λ_ q=>rS<|cM<|cA<|cB<|U 48 O<|by cases q;exact AE (r2 O)) λ_ q=>AF (A7 (AD q λ_ h5 q=>rS<|cM<|cM<|cP (Eh Ck (aT O))<|cP (HT Ck (aT O) (Lo.some (aT O)) Lo.none h5)<|cA<|cB<|U 48 O<|by cases q;exact AE (r2 O)))
def ad6{a0 a1 r}(q:R3 a0 a1=some r):AP 199 [TS a0,TS a1] [TS r.1,Ay r.2]:=
 AT func199 O A6<|rS<|cP (BG (Arg.s O))<|cB<|U 3 O<|AD q λ_ h2 q=>rS<|cM<|cM<|cC (acv h2) O<|cE<|cE<|cA<|cA<|U 48 O<|by cases q;exact AE (r2 O)
def ae6{a0 r}(q:c6 a0=some r):AP 269 [TS a0] [Ay r]:=
 AT func269 O A6<|rS<|cB<|U 1 O<|A8<|rS<|cM<|cP (Eh Ck (aT O))<|cN<|U 97 O<|AH<|B2 [0,5] O (σ:=Int) (λs1=>[(6,.val (TiZ s1))]) q O (λ_ s1 q=>by exact rS<|aV O<|U 225 O<|A8<|gc O q (λ_ q=>AF<|A7<|A8<|AH<|rS<|cM<|cA<|U 105 O<|AD q λ_ h5 q=>BO q λ_ h7 q=>rS<|cM<|cM<|cP (Mc Ck (aT O) (aT O) h5)<|cP (Ci (aT O) aI)<|cM<|aa O (aO 0 O) (λ_=>oM O)<|aa O (aO 3 O) (λ_=>oM O)<|aa O (oo 14 O id (an 15 O)) (λGZ=>Mc Ck (aT O) (aT O) (h7 GZ))<|aa O (an 16 O) (λ_=>CF (aT O) aI)<|cP (Cc (aT O) O Cf)<|U 262241 O<|gc O q (λ_ q=>rS<|cB<|U 4 O<|AE (Aa q O)) λ_ q=>AF (A7 (AD q λ_ BS q=>by exact rK<|cH O BS<|cO (oM O)<|U 97 O (cm q O)))) λ_ q=>Aj<|A7<|rS<|cM<|cP (aah (aT O) (Arg.s O))<|cA<|U 4 O<|AE (Aa q O))
def uR{a0 r}(q:Sx a0=some r):AP 200 [TS a0] [Ay r]:=
 AT func200 O A6<|rS<|cB<|U 1 O<|AD q λ_ h2 q=>BO q λ_ h4 q=>rS<|cM<|cC (ae6 h2) O<|cM<|aa O (aO 0 O) (λ_=>oM O)<|aa O (an 6 O) (λ_=>PW (aT O) (Arg.s O))<|aa O (an 7 O) (λ_=>oM O)<|gO O O (aO 0 O) (λ_=>oM O)<|gO O O (an 9 O) (λIo=>Mc Ck (aT O) aI (h4 Io))<|gO O O (an 10 O) (λ_=>CR (aT O) aI)<|aa O (oo 8 O id (aO 11 O)) (λLi=>Cc (aT O) O (λh=>L8 (id Li) (Cf h)))<|cP (CZ (aT O) O Ce)<|cA<|U 4 O<|AE (Aa q O)
def ad5{a0 a1 r}(q:kD a0 a1=some r):AP 246 [TS a0,TS a1] [Ay r]:=
 AT func246 O A6<|rS<|cB<|U 3 O<|AD q λ_ h2 q=>rS<|cM<|cM<|cC (jt h2) O<|cA<|cF [4] O<|AE (Aa q O)
def acr{a0 a1 r}(q:Sm a0 a1=some r):AP 305 [TS a0,TS a1] [TS r]:=
 AT func305 O A6<|rS<|cP (BG (Arg.s O))<|U 3 O<|A8<|AD q λ_ h2 q=>rS<|cM<|cM<|cC (jt h2) O<|U 131 O<|gc O q (λ_ q=>AD q λ_ h5 q=>rS<|cM<|cM<|cP (Eh Ck (aT O))<|cP (HT Ck (aT O) (Lo.some (aT O)) Lo.none h5)<|cA<|cF [4] O<|AE (Aa q O)) λ_ q=>AF<|A7<|rS<|cM<|cA<|cF [4] O<|AE (Aa q O)
def tC{a0 a1 r}(q:Om a0 a1=some r):AP 247 [TS a0,TS a1] [TS r]:=
 AT func247 O A6<|rS<|cP (BG (Arg.s O))<|U 3 O<|AD q λ_ h2 q=>rS<|cM<|cM<|cC (acr h2) O<|cA<|cF [4] O<|AE (Aa q O)
def aeJ{a0 a1 r}(q:cW a0 a1=some r):AP 254 [(TL (TI .u64)) a0,(TL (TI .u64)) a1] [(TL (TI .u64)) r]:=by
 refine AT func254 O A6<| ?_
 refine rS<|cP (BG (Arg.nn (f:=(TI .u64))))<|U 3 O ?_
 obtain⟨x1,h2,x3,h4,q⟩:=b2 q;refine rS<|cM<|cJ DM O<|cM<|cJ DM O<|cP (CY (aT O) (aT O) h2)<|cP (Pc (TI .u64) Wo Q9 O (aT O) (aT O) h4)<|cS (CP O O (AZ O) _ (Or.inl O))<|U 35 O ?_
 refine A8<|rS<|cM<|cJ DM O<|cN<|U 7340066 O ?_
 refine AH<|B2 [1,20,21] O (σ:=A3 Int×Int) (λs5=>[(5,.buf 293 1 (lT (TI .u64) s5.1)),(22,.val (TiZ s5.2))]) q O (λ_ s5 q=>?_)
 refine rS<|aV O<|U 15728674 O ?_
 refine A8<|gc O q (λ_ q=>?_) λ_ q=>?_
 ·refine AF<|A7<|A8<|AH ?_
  obtain⟨x8,h9,q⟩:=Ax q;refine rS<|cM<|cP (oX Cs (AM O) O O h9)<|cR O D9<|cA<|cA<|U 7340258 O ?_
  refine rS<|cI<|U 7340514 O ?_
  refine A8<|rS<|cM<|cJ DM O<|cN<|U 946864610 O ?_
  refine AH<|B2 [1,6,7,20,21,22,27,28] O (σ:=A3 Int×Int×Int) (λCw=>[(5,.buf 293 1 (lT (TI .u64) Cw.1)),(8,.val (TI .u64 Cw.2.1)),(29,.val (TiZ Cw.2.2))]) q O (λ_ Cw q=>?_)
  refine rS<|aV O<|U 2020606434 O ?_
  refine A8<|gc O q (λ_ q=>?_) λ_ q=>?_
  ·refine AF<|A7<|A8<|AH ?_
   obtain⟨Bg,X,q⟩:=Ax q;refine rS<|cM<|cP (oX Cs (AM O) O O X)<|cR O D9<|cA<|cA<|U 946866146 O ?_
   obtain⟨Be,C9,q⟩:=Ax q;refine rS<|cM<|cM<|cC (fY C9) O<|cZ<|cE<|cE<|cA<|cA<|U 946871266 O ?_
   refine rS<|cI<|U 946871266 O ?_
   obtain⟨BY,CN,Bi,Cq,C5,DT,CJ,Dm,q⟩:=b4 q;refine rS<|cM<|cQ<|cM<|cM<|cP (CY (aT O) (aT O) CN)<|cP (Cj Cs O O (aT O) Cq)<|cP (F7 (f:=(TI .u64)) (λ_=>O) O O (CC DT) D9)<|cP (PV (Tb Dm) (AO.cons (aT O) (AO.cons (aT O) (AO.cons aI AO.nil))))<|cZ<|cE<|cE<|cO (oA O)<|cA<|U 946879458 O ?_
   refine rS<|cM<|cM<|cP (Ml (aT O) (aT O))<|cO (oA O)<|U 946871266 O ?_
   obtain⟨Cu,EL,q⟩:=Ax q;refine rS<|cM<|cM<|cP (PV (Tb EL) (AO.cons (aT O) (AO.cons (aT O) (AO.cons aI AO.nil))))<|cZ<|cE<|cE<|cO (oA O)<|cA<|U 946879202 O ?_
   obtain⟨D7,FK,Fc,GS,Fl,G9,q⟩:=b3 q;refine rK<|cQ<|cM<|cM<|cP (CY (aT O) (aT O) FK)<|cM<|cM<|cM<|cP (Ml (aT O) (aT O))<|cP (Cj Cs O O (aT O) GS)<|cS (JP (f:=(TI .u64)) (λ_=>O) O O (CC G9) (aT O) D9)<|cA<|U 946864610 O (A7 ?_)
   obtain⟨G2,Gt,q⟩:=Ax q;exact rK<|cH O Gt<|cO (oM O)<|U 946864610 O (cm q O)
  ·refine Aj (A7 ?_);obtain⟨FR,HO,FD,Gs,Fm,Gr,q⟩:=b3 q;refine rK<|cQ<|cM<|cM<|cJ DM O<|cP (CY (aT O) (aT O) HO)<|cM<|cP (Cj Cs O O (aT O) Gs)<|cS (JP (f:=(TI .u64)) (λ_=>O) O O (CC Gr) (aT O) D9)<|U 7340066 O (A7 ?_)
   obtain⟨HJ,Ji,q⟩:=Ax q;exact rK<|cH O Ji<|cO (oM O)<|U 7340066 O (cm q O)
 ·refine Aj (A7 ?_);obtain⟨H6,Iz,q⟩:=Ax q;refine rS<|cQ<|cG (CD (t:=5) O)<|cG (EO (s:=78) O O)<|cC (RO Iz) O<|cA<|cF [4] O ?_
  cases q;exact AE (r1 O)
def dC{a0 a1 r}(q:T5 a0 a1=some r):AP 180 [CX a0,CX a1] [CX r]:=
 AT func180 O A6<|rS<|cX<|cX<|cT Ev<|U 28 O<|A8<|rS<|Bk 1 O LR O Le<|cP (Lb DM (aT O))<|cM<|aa O (aO 3 O) (λ_=>Fs O LR)<|aa O (oo 15 O id (aO 3 O)) (λ_=>bJ 1 O Le)<|aa O (an 16 O) (λ_=>Lb DM (aT O))<|cP (CZ (aT O) O Ce)<|U 262172 O<|Cy [2,3] O (α:=(Int×A3 Int)) (λs1=>[(4,.own 110 (CX s1))]) q (λ_ q=>by exact gc O q (λ_ q=>Cr q λ_ h5 _ h7 _ h9 q=>gE 12 mixed<|dQ 0 O GA O V<|dP [21] O (oC (mX h5) O)<|dQ 0 O GA O V<|dP [24] O (oC (mX h7) O)<|dP [22,25] O (oC (fY h9) O)<|dP [26] O (P8 O)<|dP [19] O (Hl O O)<|dP [19] O (Hl O O)<|dP [27] O (oA O)<|dP [28] O (oA O)<|dN<|dE [2,3,4,5,6] O A6<|cD<|rS<|cM<|cP (Cg (aT O) aI)<|cM<|aa O (aO 6 O) (λ_=>oM O)<|aa O (an 32 O) (λ_=>QY (aT O) aI)<|cP (CZ (aT O) O Ce)<|cF [2,3,4,6,34] O<|gc O q (λ_ q=>A8<|rS<|Bk 0 O GA O V<|cP (Ci (aT O) aI)<|Bk 0 O GA O V<|cP (Ci (aT O) aI)<|cP (pW WJ (aT O) (aT O))<|cF [4,6,41] O<|gc O q (λ_ q=>AD q λ_ Y q=>rS<|cM<|cP (Re WK SM (aT O))<|cP (pU (aT O) Y)<|cP (bB Ev Mb O)<|aS O M<|cF [4] O<|AE (CL q O M)) λ_ q=>AF<|A7<|rS<|cM<|cP (Re WK SM (aT O))<|cP (bB Ev Mb O)<|aS O M<|cF [4] O<|AE (CL q O M)) λ_ q=>AF (cm q O)) λ_ q=>AF (cm q O)) (λs1 q=>by exact A7<|AD q λ_ CA q=>rS<|cU O M<|cC (Pp CA) O<|cZ<|cE<|cE<|cA<|cA<|U 408 O<|AD q λ_ CE q=>rS<|cU O M<|cC (Pp CE) O<|cZ<|cE<|cE<|cA<|cA<|U 1936 O<|BK q λ_ CO _ h21 q=>rS<|cM<|cM<|cP (pW WJ (aT O) (aT O))<|cM<|cM<|cC (aeJ CO) O<|cC (TG h21) O<|aS O M<|cF [4] O<|AE (CL q O M))
def aet{a0 a1 r}(q:Y4 a0 a1=some r):AP 249 [CX a0,TiZ a1] [CX r]:=
 AT func249 O A6<|rS<|cX<|cT Ev<|U 22 O<|AD q λ_ h2 q=>rS<|cC (Ye h2) O<|cT Ev<|aS O M<|U 54 O<|A8<|AH<|B2 [4] O (σ:=Int×(Int×A3 Int)×(Int×A3 Int)) (λs3=>[(1,.val (TiZ s3.1)),(2,.own 110 (CX s3.2.1)),(5,.own 110 (CX s3.2.2))]) q O (λ_ s3 q=>by exact A8<|rS<|cM<|cP (CF (aT O) aI)<|U 310 O<|gc O q (λ_ q=>AF<|A7<|A8<|Cy [1,4] O (α:=(Int×A3 Int)×(Int×A3 Int)) (λs6=>[(2,.own 110 (CX s6.1)),(5,.own 110 (CX s6.2))]) q (λ_ q=>by exact AH<|A8<|rS<|cM<|cP (pb (aT O) aI)<|cP (Cg (aT O) aI)<|U 8246 O<|Cy [1,2,4] O (α:=(Int×A3 Int)) (λs8=>[(5,.own 110 (CX s8))]) q (λ_ q=>by exact gc O q (λ_ q=>AD q λ_ W q=>by exact rK<|cU O M<|cU O M<|cC (dC W) O<|aS O M<|U 54 O (cm q O)) λ_ q=>AF (cm q O)) (λs8 q=>by exact A7<|rS<|cM<|cP (CF (aT O) aI)<|U 262198 O<|gc O q (λ_ q=>AD q λ_ CA q=>by exact rK<|cU O M<|cU O M<|cC (dC CA) O<|aS O M<|U 54 O (cm q O)) λ_ q=>AF (cm q O))) (λs6 q=>by exact A7<|AD q λ_ CE q=>by exact rK<|cM<|cP (UC (aT O) aI CE)<|cO (oA O)<|U 54 O (cm q O))) λ_ q=>Aj<|A7<|rS<|cU O M<|aS O M<|cF [4] O<|AE (CL q O M))
def agn{a0 r}(q:eG a0=some r):AP 179 [TS a0] [CX r]:=
 AT func179 O A6<|rS<|cT Ev<|U 5 O<|AD q λ_ h2 q=>rS<|cM<|cP (Fh (ad5 h2) (AO.cons (aT O) (AO.cons (Arg.s O) AO.nil)))<|cA<|U 13 O<|AD q λ_ h4 q=>rS<|cM<|cP (Fh (tC h4) (AO.cons (aT O) (AO.cons (Arg.s O) AO.nil)))<|cO (oA O)<|U 13 O<|rS<|cP (bB Ev Mb O)<|cT Ev<|aS O M<|U 29 O<|A8<|AH<|B2 [2,3] O (σ:=AB×(Int×A3 Int)) (λs5=>[(0,.val (TS s5.1)),(4,.own 110 (CX s5.2))]) q O (λ_ s5 q=>by exact A8<|rS<|cM<|cP (Eh Ck (aT O))<|cP (CF (aT O) aI)<|U 32797 O<|gc O q (λ_ q=>AF<|A7<|AH<|rS<|cM<|cP (Eh Ck (aT O))<|cP (zW aI (aT O))<|cA<|U 61 O<|BK q λ_ h9 _ BZ q=>rS<|cM<|cM<|cP (HT Ck (aT O) Lo.none (Lo.some (aT O)) h9)<|cC (ao9 BZ) O<|cZ<|cE<|cE<|cA<|cA<|U 125 O<|Kl q λ_ Y _ CA _ CE _ CO _ h21 q=>gE 9 mixed<|dP [4] O (Ar O M)<|dP [] O (oC (Ye Y) O)<|dP [5] O (oM O)<|dP [27,28] O (oC (aet CA) O)<|dP [26,29] O (oC (dC CE) O)<|dP [6] O (oM O)<|dP [31] O (oC (Ye CO) O)<|dP [30,32] O (oC (dD h21) O)<|dS [4,33] O (a_ O M)<|dN<|dE [0,2,3,4,5] O A6<|cD<|AD q λ_ EB q=>by exact rK<|cM<|cM<|cP (HT Ck (aT O) (Lo.some (aT O)) Lo.none EB)<|cO (oA O)<|U 29 O (cm q O)) λ_ q=>Aj<|A7<|A8<|rS<|cM<|cF [2,4,37] O<|gc O q (λ_ q=>AD q λ_ EL q=>rS<|cU O M<|cC (RE EL) O<|aS O M<|U 4 O<|AE (CL q O M)) λ_ q=>AF<|A7<|rS<|cU O M<|aS O M<|U 4 O<|AE (CL q O M))
def pC{H:HV}{z:Int}{v:AR}(h:(ER z).ok H v):∃r,CT r z/\(CX r).ok H v:=h
def XD{f:FuncId}{x y:Int}{Bb:A3 Ty}(hc:GL prog f=true)(h:∀r s,CT r x->CT s y->∃L6,E0 prog f [CX r,CX s] (.vs L6)/\∀H v,KR H L6 v->KR H Bb v):E0 prog f [ER x,ER y] (.vs Bb):=
 Yg hc λH vs As=>by
  obtain⟨u,v,rfl,hu,hv⟩:=Tc As;obtain⟨r,hr,hru⟩:=pC hu;obtain⟨s,hs,hsv⟩:=pC hv;obtain⟨L6,h1,h2⟩:=h r s hr hs;exact⟨[CX r,CX s],L6,⟨u,[v],rfl,hru,v,[],rfl,hsv,rfl⟩,h1,h2⟩
def pD{H:HV}{z:Int}{v:AR}{r:Int×A3 Int}(h:CT r z)(k:(CX r).ok H v):(ER z).ok H v:=⟨r,h,k⟩
def Sc{z:Int}{q:Int×A3 Int}(h:CT q z):∀(H:HV) (v:AR),KR H [CX q] v->KR H [ER z] v:=λH v k=>pD h k
def jV{x y:Int}{r:Int}(hm:Oj x y=some r):AP 128 [ER x,ER y] [ER r]:=by
 obtain⟨hb,rfl⟩:=HC hm;obtain⟨h1,h2⟩:=EH hb;exact XD A6 λr s hr hs=>by obtain⟨q,e,hq⟩:=zg hr hs h1 h2;exact⟨_,wx e,Sc hq⟩
def aF{x:AB}{r:Int}(hm:Hw x=some r):AP 179 [TS x] [ER r]:=by
 obtain⟨q,e,hq⟩:=akV hm;have:=agn e;exact Yg A6 λH vs As=>⟨_,_,As,this,Sc hq⟩
def XE{f:FuncId}{x:Int}{Bb:A3 Ty}(hc:GL prog f=true)(h:∀r,CT r x->∃L6,E0 prog f [CX r] (.vs L6)/\∀H v,KR H L6 v->KR H Bb v):E0 prog f [ER x] (.vs Bb):=
 Yg hc λH vs As=>by
  obtain⟨u,rfl,hu⟩:=PD As;obtain⟨r,hr,hru⟩:=pC hu;obtain⟨L6,h1,h2⟩:=h r hr;exact⟨[CX r],L6,⟨u,[],rfl,hru,rfl⟩,h1,h2⟩
def qf{x:Int}{r:Int×Bool}(hm:PZ x=some r):AP 130 [ER x] [TI .i64 r.1,Ay r.2]:=by
 obtain⟨hb,rfl⟩:=HC hm;rw[GW,Ik] at hb;exact XE A6 λr hr=>⟨_,adv (aiv hr hb),λ_ _ h=>h⟩
def uS{a0 r}(q:Sy a0=some r):AP 134 [TS a0] [TiZ r]:=
 AT func134 O A6<|rS<|cI<|U 1 O<|AD q λ_ h2 q=>rS<|cM<|cP (Fh (abR h2) (AO.cons (aT O) (AO.cons (Arg.s O) AO.nil)))<|cZ<|cE<|cE<|cE<|cA<|cA<|cA<|U 56 O<|AD q λ_ h4 q=>rS<|cM<|cP (Fh (ad6 h4) (AO.cons (aT O) (AO.cons (Arg.s O) AO.nil)))<|cZ<|cE<|cE<|cA<|cA<|U 240 O<|A8<|AD q λ_ h6 q=>BO q λ_ h8 q=>rS<|cM<|cC (uR h6) O<|cP (DU (aT O))<|cM<|aa O (aO 7 O) (λ_=>oM O)<|aa O (an 25 O) (λ_=>oM O)<|gO O O (aO 6 O) (λ_=>oM O)<|gO O O (an 27 O) (λ_=>PW (aT O) (Arg.s O))<|aa O (oo 26 O id (aO 28 O)) (λIo=>CZ (aT O) O (λh=>L8 (id Io) (Ce h)))<|cP (Cc (aT O) O Cf)<|cM<|aa O (aO 5 O) (λ_=>oM O)<|aa O (an 32 O) (λ_=>oM O)<|gO O O (aO 4 O) (λ_=>oM O)<|gO O O (an 34 O) (λLp=>oC (uR (h8 Lp)) O)<|gO O O (an 35 O) (λ_=>DU (aT O))<|gO O O (an 36 O) (λ_=>oM O)<|gO O O (aO 4 O) (λ_=>oM O)<|gO O O (an 38 O) (λ_=>PW (aT O) (Arg.s O))<|gO O O (oo 37 O id (aO 39 O)) (λUI=>Cc (aT O) O (λh=>L8 (id UI) (Cf h)))<|gO O O (an 40 O) (λ_=>oM O)<|gO O O (aO 4 O) (λ_=>oM O)<|gO O O (an 42 O) (λ_=>PW (aT O) (Arg.s O))<|gO O O (oo 41 O id (aO 43 O)) (λqa=>Cc (aT O) O (λh=>L8 (id qa) (Cf h)))<|aa O (oo 33 O id (aO 44 O)) (λrG=>CZ (aT O) O (λh=>L8 (id rG) (Ce h)))<|cP (Cc (aT O) O Cf)<|cF [4,5,6,46] O<|gc O q (λ_ q=>rS<|cI<|U 4 O<|AE (Aa q O)) λ_ q=>AF<|A7<|A8<|rS<|cM<|cP (Eh Ck (aT O))<|cP (CF (aT O) aI)<|cM<|aa O (aO 4 O) (λ_=>oM O)<|aa O (an 51 O) (λ_=>Eh Ck (aT O))<|aa O (an 52 O) (λ_=>CF (aT O) aI)<|cP (Cc (aT O) O Cf)<|cF [4,5,6,54] O<|gc O q (λ_ q=>rS<|cI<|U 4 O<|AE (Aa q O)) λ_ q=>AF<|A7<|A8<|rS<|cM<|cF [4,6,55] O<|SA (α:=Unit) (λ_=>[]) q (λ_ q=>by exact gc O q (λ_ q=>J2 q λ_ CA _ CE _ CO _ h21 q=>rS<|cM<|cC (aF CA) O<|cM<|cC (aF CE) O<|cC (jV CO) O<|cC (qf h21) O<|cZ<|cE<|cE<|cA<|cA<|U 768 O<|rS<|cM<|cP (DU (aT O))<|cM<|aa O (aO 8 O) (λ_=>oM O)<|aa O (an 68 O) (λ_=>CR (aT O) aI)<|cP (Cc (aT O) O Cf)<|cF [70] O<|gc O q (λ_ q=>rS<|cI<|U 4 O<|AE (Aa q O)) λ_ q=>AF (cm q O)) λ_ q=>AF (cm q O)) (λ_ q=>by exact A7<|rS<|cI<|U 4 O<|AE (Aa q O))
def aee{a0 r}(q:dH a0=some r):AP 131 [(TL TiZ) a0] [TiZ r]:=
 AT func131 O A6<|rS<|cI<|U 1 O<|A8<|rS<|cM<|cJ zy O<|cN<|U 224 O<|AH<|B2 [5,6] O (σ:=Int) (λs1=>[(7,.val (TiZ s1))]) q O (λ_ s1 q=>by exact rS<|aV O<|U 480 O<|A8<|gc O q (λ_ q=>AF<|A7<|A8<|AH<|AD q λ_ h5 q=>rS<|cP (oX aaZ (AM O) O O h5)<|cR O abZ<|cA<|U 240 O<|rS<|cM<|cP (CR (aT O) aI)<|U 4336 O<|gc O q (λ_ q=>rS<|cM<|cA<|U 4 O<|AE (Aa q O)) λ_ q=>AF (A7 (AD q λ_ h8 q=>by exact rK<|cH O h8<|cO (oM O)<|U 224 O (cm q O)))) λ_ q=>Aj<|A7<|rS<|cI<|U 4 O<|AE (Aa q O))
def ac7{x:Int}{r:Int}(hm:so x=some r):AP 129 [ER x] [ER r]:=by
 have hm:=E5 hm;subst hm;exact XE A6 λr hr=>by obtain⟨q,e,hq⟩:=pj hr;exact⟨_,lK e,Sc hq⟩
def sOf{x r:Int}(hm:aOf x=some r):AP 127 [TI .i64 x] [ER r]:=by
 have h1:DX x/\x=r:=by
  unfold aOf AG at hm;cases hb:Hd x
  ·rw[hb] at hm;cases hm
  ·rw[hb] at hm;refine⟨?_,E5 hm⟩;unfold Hd at hb;obtain⟨a,b⟩:=EH hb;exact⟨An a,An b⟩
 obtain⟨h1,rfl⟩:=h1;have:=Ye (a0:=x) (r:=(x,[])) rfl;exact Yg A6 λH vs As=>⟨_,_,As,this,Sc (.inl ⟨rfl,rfl,h1⟩)⟩
def abS{x:Int}{r:Int}(hm:rX x=some r):AP 133 [ER x] [TI .i64 r]:=by
 have hm:=E5 hm;subst hm;exact XE A6 λr hr=>⟨_,Uy (Vi hr),λ_ _ h=>h⟩
def kH{a0 r}(q:Oo a0=some r):AP 61 [Ao a0] [TiZ r]:=
 AT func61 O A6<|rS<|cX<|cI<|U 2 O<|AD q λ_ h2 q=>rS<|cC (sOf h2) O<|cT Ev<|aS O M<|U 10 O<|rS<|cB<|U 26 O<|A8<|rS<|Bk 0 O Fj O Hu<|cN<|U 6170 O<|AH<|B2 [1,11] O (σ:=Int×Bool×Int) (λs3=>[(3,.own 110 (ER s3.1)),(4,.val (Ay s3.2.1)),(12,.val (TiZ s3.2.2))]) q O (λ_ s3 q=>by exact rS<|cP (Ci (aT O) aI)<|U 14362 O<|A8<|gc O q (λ_ q=>AF<|A7<|A8<|AH<|AD q λ_ h7 q=>rS<|cP (Yz (f:=TiZ) (l:=([a0.1.1,a0.1.2.1,a0.1.2.2]:A3 Int)) apb V (λ_=>O) O (aT O) (aT O) h7)<|cA<|U 6234 O<|Cr q λ_ h9 _ BZ _ Y q=>gE 6 mixed<|dP [3] O (Ar O M)<|dP [6] O (oM O)<|dP [16] O (oC (sOf h9) O)<|dP [17] O (oC (ac7 BZ) O)<|dP [15,18] O (oC (jV Y) O)<|dS [3,19] O (a_ O M)<|dN<|dE [1,3,4,6,11,12] O A6<|cD<|by exact rK<|cM<|cM<|aa O (aO 6 O) (λ_=>oM O)<|aa O (an 22 O) (λ_=>CF (aT O) aI)<|cP (Cc (aT O) O Cf)<|cM<|aa O (aO 6 O) (λ_=>oM O)<|aa O (an 26 O) (λ_=>Ci (aT O) aI)<|cP (Cc (aT O) O Cf)<|cO (oA O)<|U 6170 O (A7 (AD q λ_ CA q=>by exact rK<|cH O CA<|cO (oM O)<|U 6170 O (cm q O)))) λ_ q=>Aj (A7 (AD q λ_ CE q=>rS<|cU O M<|cC (qf CE) O<|cZ<|cE<|cE<|cA<|cA<|U 410 O<|I6 q λ_ CO _ h21 _ EB _ Fg _ Ff _ FJ q=>gE 19 mixed<|dP [3] O (Ar O M)<|dP [35] O (oC (abS CO) O)<|dP [36] O (Cg (aT O) aI)<|dP [37] O (oC (lY h21) O)<|dP [4] O (oM O)<|dP [39] O (oC (lY EB) O)<|dP [8] O (oM O)<|dP [41] O (DU (aT O))<|dP [42] O (oM O)<|dV [7,43] O O O (aO 7 O) (λ_=>oM O)<|dV [43,44] O O O (an 44 O) (λ_=>CR (aT O) aI)<|dP [43,45] O (Cc (aT O) O Cf)<|dP [46] O (oC (lY Fg) O)<|dQ 1 O Kv O CW<|dP [49] O (oC (uS Ff) O)<|dP [38,40,47,50] O (bS Zg a8 O O)<|dP [51] O (oC (aee FJ) O)<|dP [52] O (oA O)<|dN<|dE [2] O A6<|cD<|AE (Aa q O))))
def tH{a0 r}(q:XN a0=some r):AP 119 [(TL Ao) a0] [TiZ r]:=
 AT func119 O A6<|rS<|cI<|U 1 O<|A8<|rS<|cM<|cJ GN O<|cN<|U 448 O<|AH<|B2 [6,7] O (σ:=Int) (λs1=>[(8,.val (TiZ s1))]) q O (λ_ s1 q=>by exact rS<|aV O<|U 960 O<|A8<|gc O q (λ_ q=>AF<|A7<|A8<|AH<|AD q λ_ h5 q=>rS<|cP (oX Fu (AM O) O O h5)<|cR O Dd<|cT J4<|aS O Dd<|U 464 O<|AD q λ_ h7 q=>rS<|cU O Dd<|cC (kH h7) O<|cA<|U 480 O<|rS<|cM<|cP (CR (aT O) aI)<|U 33248 O<|gc O q (λ_ q=>rS<|cM<|cA<|U 4 O<|AE (Aa q O)) λ_ q=>AF (A7 (AD q λ_ BS q=>by exact rK<|cH O BS<|cO (oM O)<|U 448 O (cm q O)))) λ_ q=>Aj<|A7<|rS<|cI<|U 4 O<|AE (Aa q O))
def tq{a0 r}(q:Xi a0=some r):AP 244 [TiZ a0] [Ay r]:=by
 unfold Xi at q;exact AT func244 O A6<|rS<|cB<|U 1 O<|rS<|cM<|cM<|cP (CR (aT O) (aT O))<|cA<|U 4 O<|AE (Aa q O)
def kM{a0 a1 r}(q:Un a0 a1=some r):AP 176 [TiZ a0,TiZ a1] [TiZ r]:=
 AT func176 O A6<|rS<|cI<|U 3 O<|AD q λ_ h2 q=>rS<|cM<|cC (tq h2) O<|cA<|U 35 O<|AD q λ_ h4 q=>rS<|cM<|cC (tq h4) O<|cA<|U 99 O<|A8<|rS<|cM<|U 2115 O<|gc O q (λ_ q=>A8<|rS<|cM<|cF [12] O<|gc O q (λ_ q=>rS<|cI<|cF [4] O<|AE (Aa q O)) λ_ q=>AF<|A7<|rS<|cI<|cF [4] O<|AE (Aa q O)) λ_ q=>AF<|A7<|A8<|rS<|cM<|U 8195 O<|gc O q (λ_ q=>rS<|cI<|cF [4] O<|AE (Aa q O)) λ_ q=>AF<|A7<|A8<|rS<|cM<|cM<|aV O<|U 65539 O<|gc O q (λ_ q=>rS<|cI<|cF [4] O<|AE (Aa q O)) λ_ q=>AF<|A7<|A8<|rS<|cM<|cM<|cP (CF (aT O) (aT O))<|cF [19] O<|gc O q (λ_ q=>rS<|cI<|cF [4] O<|AE (Aa q O)) λ_ q=>AF<|A7<|rS<|cI<|cF [4] O<|AE (Aa q O)
def lk{a0 r}(q:VI a0=some r):AP 100 [(TL TiZ) a0] [TiZ r]:=
 AT func100 O A6<|rS<|cI<|U 1 O<|rS<|cI<|U 9 O<|A8<|rS<|cM<|cJ DA O<|cN<|U 456 O<|AH<|B2 [3,6,7] O (σ:=Int) (λs1=>[(8,.val (TiZ s1))]) q O (λ_ s1 q=>by exact rS<|aV O<|U 968 O<|A8<|gc O q (λ_ q=>AF<|A7<|A8<|AH<|AD q λ_ h5 q=>rS<|cP (oX DC (AM O) O O h5)<|cR O V<|cA<|U 488 O<|rS<|cM<|cM<|cP (CR (aT O) (aT O))<|U 16872 O<|gc O q (λ_ q=>rS<|cM<|cA<|U 4 O<|AE (Aa q O)) λ_ q=>AF (A7 (AD q λ_ h8 q=>by exact rK<|cH O h8<|cO (oM O)<|U 456 O (cm q O)))) λ_ q=>Aj<|A7<|rS<|cM<|cA<|U 4 O<|AE (Aa q O))
def bt{a0 a1 r}(q:RB a0 a1=some r):AP 101 [KJ a0,KJ a1] [TiZ r]:=
 AT func101 O A6<|rS<|cX<|cX<|cI<|U 12 O<|J2 q λ_ h2 _ h4 _ h6 _ h8 q=>gE 18 mixed<|dP [2] O (iO O Gh O)<|dP [5,2] O (bJ 0 O V)<|dP [3] O (iO O Gh O)<|dP [7,3] O (bJ 0 O V)<|dP [6,8] O (oC (kM h2) O)<|dP [2] O (iO O Gh O)<|dP [10,2] O (bJ 1 O V)<|dP [3] O (iO O Gh O)<|dP [12,3] O (bJ 1 O V)<|dP [11,13] O (oC (kM h4) O)<|dP [2] O (iO O Gh O)<|dP [15,2] O (bJ 2 O V)<|dP [3] O (iO O Gh O)<|dP [17,3] O (bJ 2 O V)<|dP [16,18] O (oC (kM h6) O)<|dP [9,14,19] O (bS Hs II O O)<|dP [20] O (oC (lk h8) O)<|dP [21] O (oA O)<|dN<|dE [4] O A6<|cD<|AE (Aa q O)
def agB{a0 r}(q:mQ a0=some r):AP 178 [ER a0] [Br r]:=
 AT func178 O A6<|rS<|cX<|cT Eu<|U 6 O<|BK q λ_ h2 _ h4 q=>gE 4 mixed<|dP [1] O (Ar O M)<|dP [] O (oC (sOf h2) O)<|dP [3,4] O (Ju (bB oD Yr O) (qo h4))<|dS [2,5] O (a_ O B)<|dN<|dE [2] O A6<|cD<|AE (CL q O B)
def Zj{x:Int}{r:Rat}(hm:Wh x=some r):AP 178 [ER x] [Br r]:=by
 have hm:=E5 hm;subst hm;exact agB (ahK x)
def alZ{a0 r}(q:zm a0=some r):AP 106 [TiZ a0] [Br r]:=
 AT func106 O A6<|rS<|cT Eu<|U 5 O<|BK q λ_ h2 _ h4 q=>rS<|cM<|cC (sOf h2) O<|cC (Zj h4) O<|aS O B<|U 4 O<|AE (CL q O B)
def JH{x:Int}{r:Rat}(hm:qF x=some r):AP 106 [TI .i64 x] [Br r]:=by
 refine alZ ?_;unfold qF at hm;unfold zm aOf;cases h:AG x with
 |none=>rw[h] at hm;cases hm
 |some y=>rw[h] at hm;exact hm
def Q6{a0 a1 a2 r}(q:N9 a0 a1 a2=some r):AP 91 [TiZ a0,TiZ a1,TiZ a2] [Av r]:=
 AT func91 O A6<|rS<|cT DY<|U 71 O<|Cr q λ_ h2 _ h4 _ h6 q=>rS<|cM<|cC (JH h2) O<|cM<|cC (JH h4) O<|cM<|cC (JH h6) O<|cP (bA Rb Cm O O)<|aS O P<|cF [6] O<|AE (CL q O P)
def VP{a0 r}(q:MX a0=some r):AP 102 [TS a0] [Br r]:=
 AT func102 O A6<|rS<|cT Eu<|U 5 O<|AD q λ_ h2 q=>rS<|cM<|cP (Fh (abR h2) (AO.cons (aT O) (AO.cons (Arg.s O) AO.nil)))<|cZ<|cE<|cE<|cE<|cA<|cA<|cA<|U 60 O<|A8<|rS<|cM<|cP (DU (aT O))<|U 8220 O<|gc O q (λ_ q=>BK q λ_ h5 _ h7 q=>rS<|cM<|cC (aF h5) O<|cC (Zj h7) O<|aS O B<|U 4 O<|AE (CL q O B)) λ_ q=>AF (A7 (Cr q λ_ h9 _ BZ _ Y q=>rS<|cM<|cC (aF h9) O<|cM<|cC (aF BZ) O<|cP (Ju (bB oD Yr O) (qo Y))<|aS O B<|U 4 O<|AE (CL q O B)))
def ke{a0 r}(q:V2 a0=some r):AP 63 [Ao a0] [Et r]:=
 AT func63 O A6<|rS<|cX<|cT Jl<|U 6 O<|BK q λ_ h2 _ h4 q=>gE 15 mixed<|dP [1] O (Fs O Fj)<|dP [3,1] O (Ox O Gh aI (by decide) (by decide))<|dP [4,1] O (FU O O (BN.trans (BN.agg (i:=0) O O) O (BN.agg (i:=0) O O)) V)<|dP [1] O (Fs O Fj)<|dP [6,1] O (Ox O Gh aI (by decide) (by decide))<|dP [7,1] O (FU O O (BN.trans (BN.agg (i:=0) O O) O (BN.agg (i:=1) O O)) V)<|dP [1] O (Fs O Fj)<|dP [9,1] O (Ox O Gh aI (by decide) (by decide))<|dP [10,1] O (FU O O (BN.trans (BN.agg (i:=0) O O) O (BN.agg (i:=2) O O)) V)<|dP [5,8,11] O (oC (Q6 h2) O)<|dQ 1 O Kv O CW<|dP [14] O (oC (VP h4) O)<|dP [12,15] O (bB Ra Rj O)<|dS [2,16] O (a_ O EY)<|dN<|dE [2] O A6<|cD<|AE (CL q O EY)
def ur{a0 r}(q:Y9 a0=some r):AP 123 [(TL Ao) a0] [(TL Et) r]:=
 AT func123 O A6<|rS<|cP (C4 Et 116 16)<|U 1 O<|rS<|cP (C4 Et 116 16)<|U 9 O<|A8<|rS<|cM<|cJ GN O<|cN<|U 456 O<|AH<|B2 [6,7] O (σ:=(A3 PlZ)×Int) (λs1=>[(3,.buf 116 16 (lT Et s1.1)),(8,.val (TiZ s1.2))]) q O (λ_ s1 q=>by exact rS<|aV O<|U 968 O<|A8<|gc O q (λ_ q=>AF<|A7<|A8<|AH<|AD q λ_ h5 q=>rS<|cP (oX Fu (AM O) O O h5)<|cR O Dd<|cT J4<|aS O Dd<|U 488 O<|BK q λ_ h7 _ h9 q=>by exact rK<|cQ<|cU O Dd<|cC (ke h7) O<|cP (bS Jl We O O)<|cS (Dy Mh Wg (AM O) O O (aT O) h9 (AZ O))<|cS (CP O O (AZ O) _ (Or.inl O))<|U 456 O (A7 (AD q λ_ BZ q=>by exact rK<|cH O BZ<|cO (oM O)<|U 456 O (cm q O)))) λ_ q=>Aj<|A7<|rS<|cQ<|cG (CD (t:=3) O)<|cG (EO (s:=18) O O)<|cA<|U 4 O<|AE (Aa q O))
def adw{a0 r}(q:ae4 a0=some r):AP 109 [Br a0] [TiZ r]:=
 AT func109 O A6<|rS<|cX<|cI<|U 2 O<|AD q λ_ h2 q=>rS<|Bk 0 O LQ O M<|cC (abS h2) O<|cA<|U 4 O<|AE (Aa q O)
def art{x:Int}{r:Int}(hm:aca x=some r):AP 198 [ER x] [ER r]:=by
 have hm:=E5 hm;subst hm;exact XE A6 λr hr=>by obtain⟨q,e,hq⟩:=Rp hr;exact⟨_,RE e,Sc hq⟩
def aeN{a0 r}(q:l5 a0=some r):AP 233 [Br a0] [Br r]:=
 AT func233 O A6<|rS<|cX<|cT Eu<|U 6 O<|BK q λ_ h2 _ h4 q=>gE 7 mixed<|dQ 0 O LQ O M<|dP [4] O (oC (art h2) O)<|dQ 1 O Kq O M<|dP [5,7] O (Ju (bB oD Yr O) (qo h4))<|dS [2,8] O (a_ O B)<|dN<|dE [2] O A6<|cD<|AE (CL q O B)
def Wi{x:Rat}{r:Rat}(hm:Sa x=some r):AP 233 [Br x] [Br r]:=by
 have hm:=E5 hm;subst hm;exact aeN (akq x)
def NP{x:Rat}{r:Int}(hm:JB x=some r):AP 109 [Br x] [TI .i64 r]:=by
 have hm:=E5 hm;subst hm;exact adw (a0:=x) rfl
def uq{a0 r}(q:Y8 a0=some r):AP 259 [Br a0] [Br r]:=
 AT func259 O A6<|rS<|cX<|cT Eu<|U 6 O<|A8<|AD q λ_ h2 q=>rS<|cU O B<|cC (NP h2) O<|cP (Ci (aT O) aI)<|U 38 O<|gc O q (λ_ q=>AD q λ_ h5 q=>rS<|cU O B<|cC (Wi h5) O<|aS O B<|U 4 O<|AE (CL q O B)) λ_ q=>AF<|A7<|rS<|cU O B<|aS O B<|U 4 O<|AE (CL q O B)
def aco{a0 a1 r}(q:jr a0 a1=some r):AP 311 [(TL Br) a0,(JL prog (λ(x:Rat×Rat)=>[Br x.1,Br x.2]) (λ(x:Int)=>[TiZ x])) a1] [Br r]:=by
 refine AT func311 O A6<|rS<|cT Eu<|U 19 O<|A8<|rS<|cM<|cJ ZX O<|cP (Ci (aT O) aI)<|U 531 O<|gc O q (λ_ q=>?_) λ_ q=>?_
 ·cases q
 ·refine AF (A7 ?_);obtain⟨x2,h3,q⟩:=Ax q;refine rS<|cM<|cP (EX qe (AM O) (aT O) aI h3)<|cR O B<|cT Eu<|aS O B<|U 51 O<|A8<|rS<|cI<|U 115 O<|AH<|B2 [0,1,4] O (σ:=Rat×Int) (λs4=>[(5,.own 112 (Br s4.1)),(6,.val (TiZ s4.2))]) q O (λ_ s4 q=>?_)
  refine A8<|rS<|cM<|cM<|cJ ZX O<|aV O<|U 131187 O<|gc O q (λ_ q=>?_) λ_ q=>?_
  ·refine AF<|A7<|A8<|Cy [0,1,4,6] O (α:=Rat) (λs7=>[(5,.own 112 (Br s7))]) q (λ_ q=>?_) (λs7 q=>?_)
   ·refine AH ?_;obtain⟨x9,BS,B3,W,q⟩:=b2 q;refine gE 8 mixed<|dP [1] O (oM O)<|dP [0] O (oM O)<|dP [6] O (oM O)<|dP [21,22] O (oX qe (AM O) O O BS)<|dP [23] O (BX (aT O) B)<|dP [5] O (Ar O B)<|dP [20,24,25] O (Vh O W (AO.cons (aT O) (AO.cons (aT O) AO.nil)))<|dP [26] O (CF (aT O) aI)<|dN<|dE [0,1,4,5,6,27] O A6<|cD<|gc O q (λ_ q=>?_) λ_ q=>?_
    ·obtain⟨Bj,CA,q⟩:=Ax q;exact rK<|cM<|cM<|cP (oX qe (AM O) O O CA)<|cR O B<|aS O B<|U 115 O (cm q O)
    ·exact AF (cm q O)
   ·refine A7 ?_;obtain⟨BW,CE,q⟩:=Ax q;exact rK<|cM<|cH O CE<|cO (oA O)<|U 115 O (cm q O)
  ·refine Aj<|A7<|rS<|cU O B<|aS O B<|cF [4] O ?_
   cases q;exact AE (q1 O B)
def aeu{a0 a1 r}(q:lX a0 a1=some r):AP 181 [CX a0,CX a1] [TiZ r]:=
 AT func181 O A6<|rS<|cX<|cX<|cI<|U 12 O<|A8<|rS<|Bk 1 O LR O Le<|cP (Lb DM (aT O))<|cM<|aa O (aO 3 O) (λ_=>Fs O LR)<|aa O (oo 9 O id (aO 3 O)) (λ_=>bJ 1 O Le)<|aa O (an 10 O) (λ_=>Lb DM (aT O))<|cP (CZ (aT O) O Ce)<|U 4108 O<|gc O q (λ_ q=>A8<|AH<|rS<|Bk 0 O GA O V<|Bk 0 O GA O V<|aV O<|cA<|U 8204 O<|gc O q (λ_ q=>rS<|cI<|cF [4] O<|AE (Aa q O)) λ_ q=>rS<|Bk 0 O GA O V<|Bk 0 O GA O V<|cP (CF (aT O) (aT O))<|cA<|cF [19] O<|gc O q (λ_ q=>rS<|cI<|cF [4] O<|AE (Aa q O)) λ_ q=>AF<|A7<|rS<|cI<|cF [4] O<|AE (Aa q O)) λ_ q=>AF (A7 (BK q λ_ h5 _ h7 q=>rS<|cU O M<|cU O M<|cC (ue h5) O<|cC (Uy h7) O<|cA<|cF [4] O<|AE (Aa q O)))
def aru{x y:Int}{r:Int}(hm:ay x y=some r):AP 181 [ER x,ER y] [TI .i64 r]:=by
 obtain⟨hb,rfl⟩:=HC hm;obtain⟨h1,h2⟩:=EH hb;exact XD A6 λr s hr hs=>⟨_,aeu (amS hr hs h1 h2),λ_ _ h=>h⟩
def SY{x y:Int}{r:Int}(hm:K0 x y=some r):AP 180 [ER x,ER y] [ER r]:=by
 obtain⟨hb,rfl⟩:=HC hm;obtain⟨h1,h2⟩:=EH hb;exact XD A6 λr s hr hs=>by obtain⟨q,e,hq⟩:=zf hr hs h1 h2;exact⟨_,dC e,Sc hq⟩
def aeR{a0 a1 r}(q:lC a0 a1=some r):AP 103 [Br a0,Br a1] [TiZ r]:=
 AT func103 O A6<|rS<|cX<|cX<|cI<|U 12 O<|Cr q λ_ h2 _ h4 _ h6 q=>gE 12 mixed<|dQ 0 O LQ O M<|dQ 1 O Kq O M<|dP [6,8] O (oC (SY h2) O)<|dQ 0 O LQ O M<|dQ 1 O Kq O M<|dP [11,13] O (oC (SY h4) O)<|dP [9,14] O (oC (aru h6) O)<|dP [15] O (oA O)<|dN<|dE [4] O A6<|cD<|AE (Aa q O)
def Wj{x y:Rat}{r:Int}(hm:Og x y=some r):AP 103 [Br x,Br y] [TI .i64 r]:=by
 obtain⟨hb,rfl⟩:=HC hm;obtain⟨h1,h2⟩:=EH hb;exact aeR (aku h1 h2)
def tX{a0 r}(q:XZ a0=some r):I9 prog 260 [] (.buf 112 4 (lT Br a0)) (.gone) [] [Br r]:=
 eI (N:=8) func260 O ntmps260 (by simp) apo O O λ_ v _ _ hk=>by exact M6 (sS [0] O)<|rS<|cT Eu<|U 5 O<|Cr q λ_ h2 _ h4 _ h6 q=>rS<|cQ<|cC (JH h2) O<|cP (bS Eu r9 O O)<|cS (Dy ZX rF (AM O) O O (aT O) h4 (AZ O))<|cG (CD (t:=6) O)<|cP (Fh (aco h6) (AO.cons (aT O) (AO.cons (Arg.fn λ_ _ h=>Wj (D:=DR.strict) h) AO.nil)))<|aS O B<|U 4 O<|by cases q;exact AE (qX hk O (AX.cell O (FZ B) O AX.nil))
def lJ{a0 a1 r}(q:Y3 a0 a1=some r):AP 212 [CX a0,CX a1] [CX r]:=
 AT func212 O A6<|rS<|cX<|cX<|cT Ev<|U 28 O<|A8<|AD q λ_ h2 q=>rS<|cU O M<|cC (Uy h2) O<|cP (Ci (aT O) aI)<|U 540 O<|Cy [4] O (α:=(Int×A3 Int)×(Int×A3 Int)) (λs3=>[(2,.own 110 (CX s3.1)),(3,.own 110 (CX s3.2))]) q (λ_ q=>by exact gc O q (λ_ q=>BK q λ_ h7 _ h9 q=>gD 6 mixed<|dP [2] O (Ar O M)<|dP [10] O (oC (RE h7) O)<|dP [3] O (Ar O M)<|dP [12] O (oC (RE h9) O)<|dS [2,11] O (a_ O M)<|dS [3,13] O (a_ O M)<|dN<|dE [2,3,4] O A6<|cD (cm q O)) λ_ q=>AF (cm q O)) (λs3 q=>by exact A7<|AD q λ_ BZ q=>rS<|cU O M<|cU O M<|cC (td BZ) O<|cZ<|cE<|cE<|cT Ev<|cT Ev<|aS O M<|aS O M<|U 48 O<|rS<|cU O M<|aS O M<|cF [4] O<|AE (CL q O M))
def ago{a0 a1 r}(q:nB a0 a1=some r):AP 158 [CX a0,CX a1] [eL r]:=
 AT func158 O A6<|rS<|cX<|cX<|cT nO<|U 28 O<|A8<|AD q λ_ h2 q=>rS<|cU O M<|cC (Uy h2) O<|cP (Ci (aT O) aI)<|U 284 O<|Cy [4] O (α:=(Int×A3 Int)×(Int×A3 Int)) (λs3=>[(2,.own 110 (CX s3.1)),(3,.own 110 (CX s3.2))]) q (λ_ q=>by exact gc O q (λ_ q=>BK q λ_ h7 _ h9 q=>gD 6 mixed<|dP [2] O (Ar O M)<|dP [9] O (oC (RE h7) O)<|dP [3] O (Ar O M)<|dP [11] O (oC (RE h9) O)<|dS [2,10] O (a_ O M)<|dS [3,12] O (a_ O M)<|dN<|dE [2,3,4] O A6<|cD (cm q O)) λ_ q=>AF (cm q O)) (λs3 q=>by exact A7<|A8<|rS<|Bk 1 O LR O Le<|cP (Lb DM (aT O))<|cM<|aa O (aO 3 O) (λ_=>Fs O GA)<|aa O (oo 17 O id (aO 3 O)) (λ_=>bJ 0 O V)<|aa O (an 18 O) (λ_=>Cg (aT O) aI)<|cP (CZ (aT O) O Ce)<|U 1048604 O<|gc O q (λ_ q=>rS<|cU O M<|cU O M<|cP (bB nO Yr O)<|aS O B<|cF [4] O<|AE (CL q O B)) λ_ q=>AF (A7 (AD q λ_ W q=>rS<|cU O M<|cU O M<|cC (wx W) O<|cT Ev<|aS O M<|U 60 O<|BK q λ_ X _ C9 q=>gE 8 mixed<|dP [2] O (Ar O M)<|dP [5] O (Ar O M)<|dP [27,28] O (oC (lJ X) O)<|dP [3] O (Ar O M)<|dP [5] O (Ar O M)<|dP [30,31] O (oC (lJ C9) O)<|dP [29,32] O (bB nO Yr O)<|dS [4,33] O (a_ O B)<|dN<|dE [4] O A6<|cD<|AE (CL q O B))))
def aup{H:HV}{v:AR}{τ1 τ2 σ1 σ2:Ty}(h1:∀v,τ1.ok H v->σ1.ok H v)(h2:∀v,τ2.ok H v->σ2.ok H v):(DG [τ1,τ2]).ok H v->(DG [σ1,σ2]).ok H v:=by
 rintro⟨cs,e,a,r1,e1,ha,b,r2,e2,hb,e3⟩;exact⟨cs,e,a,r1,e1,h1 _ ha,b,r2,e2,h2 _ hb,e3⟩
def aG{x y:Int}{r:Rat}(hm:Od x y=some r):AP 158 [ER x,ER y] [Br r]:=by
 obtain⟨hb,rfl⟩:=HC hm;obtain⟨hb,h3⟩:=EH hb;obtain⟨h1,h2⟩:=EH hb;rw[GW,Ik] at h3;exact XD A6 λr s hr hs=>by
  obtain⟨q,e,hq,hq'⟩:=akW hr hs h1 h2 h3;refine⟨_,ago e,λH v h=>?_⟩;exact aup (λ_=>pD hq) (λ_=>pD hq') h
def aeO{a0 a1 r}(q:l6 a0 a1=some r):AP 184 [Br a0,Br a1] [Br r]:=
 AT func184 O A6<|rS<|cX<|cX<|cT Eu<|U 28 O<|Cr q λ_ h2 _ h4 _ h6 q=>gE 12 mixed<|dQ 0 O LQ O M<|dQ 0 O LQ O M<|dP [6,8] O (oC (SY h2) O)<|dQ 1 O Kq O M<|dQ 1 O Kq O M<|dP [11,13] O (oC (SY h4) O)<|dP [9,14] O (oC (aG h6) O)<|dS [4,15] O (a_ O B)<|dN<|dE [4] O A6<|cD<|AE (CL q O B)
def acq{c0:A3 V3}{L:A3 (V3)}(ho:VW c0=some L):Yq prog 277 [JX (TL Av c0)] (λ(x:V3)=>[Av x]) L:=by
 refine wN (N:=16) func277 O ntmps277 (by simp) apn λ{σ ρ} Bd K u r q l J Jx w H0 I hJ hI hy=>?_
 replace q:=aeW ho Bd K u q;unfold js at q;refine rS<|cR O Hq<|cJ GV O<|cN<|U 65761 O<|AH<|aa3 (τ:=σ×Int) (J:=J) (λs1=>s1.1) (λs1=>[(0,.val (SD l)),(5,.val (TL Av c0)),(6,.val (TiZ (c0.length:Int))),(7,.val (TiZ s1.2))]) q hJ (sS [16,0,5,6,7] O) (λ_ s1 I q hJ=>?_)
 refine rS<|aV O<|U 66017 O<|A8<|gc O q (λ_ q=>?_) λ_ q=>?_
 ·refine AF<|A7<|A8<|AH ?_
  obtain⟨x4,h5,q⟩:=Ax q;refine rS<|cP (oX HD (AM O) O O h5)<|cR O P<|cT DY<|aS O P<|U 65777 O<|A8<|anJ (l1:=[_,_]) O O hy q hJ O O (JE.cons (Step.pure (oM O) O O (AZ O) O O) (JE.cons (Step.pure (Ar O P) O O (AZ O) O O) (JE.fin (sS [0,5,6,7,11,12,16] O)))) O (AO.cons (aT O) AO.nil) O (sS [0,5,6,7] O) O (AZ O) (AZ O) (λu I q hJ=>A7 ?_) (λI hJ=>A7 ?_)
  rotate_left
  ·refine UF O (λ_=>AE (aaB O O O hJ)) (λh=>by cases h)
  ·
   refine UF O (λh=>by cases h) (λ_=>?_);refine AF (A7 ?_);obtain⟨x6,h7,q⟩:=Ax q;exact rK<|cH O h7<|cO (oM O)<|U 65761 O (abB q hJ (sS [16,0,5,6,7] O))
 ·exact Aj (abD O O O q hJ)
def acw{a0 r}(q:bK a0=some r):AP 206 [(TL Av) a0] [(Ug prog (λ(x:V3)=>[Av x])) r]:=by
 unfold bK at q;exact AT func206 O A6<|rS<|cX<|cP (BG (Arg.c O))<|U 2 O<|rS<|cG (Rl (t:=1) O)<|cP (wJ (o:=VW a0) (AO.cons (aT O) AO.nil) (λ_ h=>acq h))<|cA<|U 4 O<|AE (Aa q O)
def acp{a0 a1 r}(q:bH a0 a1=some r):E0 prog 318 [(TN Av) a0,(Ug prog (λ(x:V3)=>[Av x])) a1] (.fr 114 12 (lT Av r)):=
 AT func318 O A6<|by exact gcI q λh1 q=>rS<|cP (amQ (ps:=[.buf 114 12 []]) false (aT O) zU (Gk.buf (W8.1 h1) Gk.nil))<|cP (BG (Arg.nn (f:=Av)))<|U 6 O<|A8<|rS<|cM<|U 68 O<|AH<|AD q λ_ h7 q=>qQ (σ:=(A3 V3)) [2] (λs2=>[(2,.Cx 125 false [.buf 114 12 (lT Av s2)])]) none q h7 O O O (sS [2] O) (λ_=>O) (λG h=>by cases h) (λ_=>O) O (by decide) (λ_ _ l _ _ _ _ s2 _ q=>by exact rK<|cT DY<|aS O P<|U 73764 O (rV (sS [13,2,5,16] O) O (AH<|AD q λ_ h9 q=>by exact rK<|cS (Zi (i:=0) false (FP.box O) O O O O Hq (AZ O) O)<|cU O P<|cP (bS DY NV O O)<|cS (PC GV Mp (AM O) O (aT O) h9 (AZ O))<|cS (qd (i:=0) (FP.box O) O O O (Pm.buf O) O Hq)<|cG (Vn (t:=2) (u:=11) (i:=0) O O O O)<|cY (sS [2,13,16] O) (iK (K6:=none) q (sS [13,16,2] O))))) (λs2 q=>A7 (rS<|cS (Zi (i:=0) true (FP.box O) O O O O Hq (AZ O) O)<|cS (CP O O (AZ O) _ (Or.inl O))<|cF [4] O<|by cases q;exact AE (SB O O O O))) (λG h=>by cases h)
def ad1{a0 r}(q:jx a0=some r):E0 prog 276 [(Ug prog (λ(x:V3)=>[Av x])) a0] (.fr 114 12 (lT Av r)):=
 AT func276 O A6<|rS<|cP (C4 Av 114 12)<|U 1 O<|AD q λ_ h2 q=>rS<|cM<|cP (Fh (acp h2) (AO.cons Arg.nn (AO.cons (aT O) AO.nil)))<|cS (CP O O (AZ O) _ (Or.inl O))<|U 4 O<|by cases q;exact AE (SB O O O O)
def acy{a0 a1 r}(q:ju a0 a1=some r):E0 prog 205 [(Ug prog (λ(x:V3)=>[Av x])) a0,(JL prog (λ(x:V3×V3)=>[Av x.1,Av x.2]) (λ(x:Int)=>[TiZ x])) a1] (.fr 114 12 (lT Av r)):=by
 refine AT func205 O A6<|rS<|cP (C4 Av 114 12)<|U 3 O ?_
 obtain⟨x1,h2,q⟩:=Ax q;refine rS<|cM<|cC (ad1 h2) O<|cS (CP O O (AZ O) _ (Or.inl O))<|U 34 O ?_
 obtain⟨x3,h4,q⟩:=Ax q;refine rS<|cQ<|cM<|cS (P6 (xs:=[]) (ys:=[.tmp 9]) (aiO h4) (Ej.same O) O O O AO.nil (AO.cons (aT O) AO.nil) (AZ O) O)<|cF [5] O<|rS<|cQ<|cS (oH O O O (AZ O) _ (Or.inl O))<|cF [4] O ?_
 cases q;exact AE (SB O O O O)
def tP{a0 a1 r}(q:Sn a0 a1=some r):AP 172 [Av a0,Av a1] [TiZ r]:=
 AT func172 O A6<|rS<|cX<|cX<|cI<|U 12 O<|J2 q λ_ h2 _ h4 _ h6 _ h8 q=>gE 18 mixed<|dP [2] O (iO O Cm O)<|dP [5,2] O (bJ 0 O B)<|dP [3] O (iO O Cm O)<|dP [7,3] O (bJ 0 O B)<|dP [6,8] O (oC (Wj h2) O)<|dP [2] O (iO O Cm O)<|dP [10,2] O (bJ 1 O B)<|dP [3] O (iO O Cm O)<|dP [12,3] O (bJ 1 O B)<|dP [11,13] O (oC (Wj h4) O)<|dP [2] O (iO O Cm O)<|dP [15,2] O (bJ 2 O B)<|dP [3] O (iO O Cm O)<|dP [17,3] O (bJ 2 O B)<|dP [16,18] O (oC (Wj h6) O)<|dP [9,14,19] O (bS Hs II O O)<|dP [20] O (oC (lk h8) O)<|dP [21] O (oA O)<|dN<|dE [4] O A6<|cD<|AE (Aa q O)
def Xk{a0 a1 r}(q:Pr a0 a1=some r):AP 92 [Av a0,Av a1] [Ay r]:=
 AT func92 O A6<|rS<|cX<|cX<|cB<|U 12 O<|AD q λ_ h2 q=>rS<|cU O P<|cU O P<|cC (tP h2) O<|cP (Cg (aT O) aI)<|cA<|cF [4] O<|AE (Aa q O)
def kP{a0 r}(q:Uq a0=some r):E0 prog 147 [(TL Av) a0] (.fr 114 12 (lT Av r)):=by
 refine AT func147 O A6<|rS<|cP (BG (Arg.nn (f:=Av)))<|U 1 O ?_
 obtain⟨x1,h2,x3,h4,q⟩:=b2 q;refine rS<|cM<|cC (acw h2) O<|cP (Fh (acy h4) (AO.cons (aT O) (AO.cons (Arg.fn λ_ _ h=>tP (D:=DR.strict) h) AO.nil)))<|cS (CP O O (AZ O) _ (Or.inl O))<|U 8 O ?_
 obtain⟨x5,h6,q⟩:=Ax q;refine rS<|cQ<|cS (aiA (af3 h6) O O (AO.cons (Arg.fn λ_ _ h=>Xk (D:=DR.strict) h) AO.nil) (AZ O))<|cS (CP O O (AZ O) _ (Or.inl O))<|U 4 O ?_
 cases q;exact AE (SB O O O O)
def adD{a0 r}(q:tO a0=some r):AP 187 [eL a0] [Ay r]:=by
 unfold tO at q;exact AT func187 O A6<|rS<|cX<|cB<|U 2 O<|rS<|cK O Kq<|cP (O5 O LR)<|cP (FU O O (BN.trans (BN.agg (i:=1) O O) O (BN.agg (i:=1) O O)) Le)<|cP (Lb DM (aT O))<|cM<|aa O (aO 1 O) (λ_=>Fs O Kq)<|aa O (oo 8 O id (aO 1 O)) (λ_=>O5 O GA)<|aa O (oo 9 O id (aO 1 O)) (λ_=>FU O O (BN.trans (BN.agg (i:=1) O O) O (BN.agg (i:=0) O O)) V)<|aa O (an 10 O) (λ_=>Cg (aT O) aI)<|cP (CZ (aT O) O Ce)<|cA<|U 4 O<|AE (Aa q O)
end
end Trn
