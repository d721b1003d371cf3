/- Part of SolidCuts. -/
import Derived.Test.YtieipfegkfhllaaGreatDoorWe
set_option maxRecDepth 100000
set_option maxHeartbeats 20000000
set_option linter.all false
open Go Go.RowKit Go.Proofs Go.Proofs.Tryz
namespace Trn
section
variable[D:DR]
def adK{a0 a1 a2 r}(q:Us a0 a1 a2=some r):AS 4 [(TL (TL Af)) a0,(TL (TL Af)) a1,Af a2] [Av r]:=AY func4 O A7<|rS<|cX<|cB<|A5 35 O<|A9<|AE q λ_ h2 q=>BW q λ_ h4 q=>rS<|cM<|cC (uY h2) O<|cM<|AI O (AW 1 O) (λ_=>oM O)<|AI O (AP 15 O) (λhg2=>oC (uY (h4 hg2)) O)<|cP (Cu (aT O) O Cv)<|cM<|AI O (AW 5 O) (λ_=>FA O Jf)<|AI O (oo 19 O id (AW 5 O)) (λ_=>BQ 1 O V)<|AI O (AP 20 O) (λ_=>EM Lr (aT O))<|AI O (AP 21 O) (λ_=>CG (aT O) aI)<|cP (Cu (aT O) O Cv)<|A5 8388643 O<|gQ O q (λq=>AE q λ_ h7 q=>rS<|cC (lZ h7) O<|cA<|cF [6] O<|AF (Ab q O)) λq=>AG (A8 (AE q λ_ h9 q=>rS<|cM<|cM<|cC (af4 h9) O<|cZ<|cE<|cE<|cA<|cA<|A5 419 O<|AE q λ_ Bb q=>rS<|cM<|cU O DM<|cC (vI Bb) O<|cZ<|cE<|cE<|cA<|cA<|A5 1955 O<|Cx q λ_ M _ P _ S q=>rS<|cM<|cC (XN M) O<|cM<|cC (XN P) O<|cP (bS Ha Hp O O)<|cC (uZ S) O<|cA<|A5 4003 O<|A9<|BW q λ_ Ca q=>rS<|cM<|cM<|cP (Cr (aT O) (aT O))<|cM<|AI O (AW 7 O) (λ_=>oM O)<|AI O (AW 11 O) (λ_=>oM O)<|AI O (AP 48 O) (λ_=>Ce (aT O) aI)<|AI O (AP 49 O) (λ_=>oM O)<|gO O O (AW 0 O) (λ_=>oM O)<|gO O O (AW 1 O) (λ_=>oM O)<|gO O O (oo 51 O id (AP 52 O)) (λZh=>oC (af7 (Ca Zh)) O)<|AI O (oo 50 O id (AW 53 O)) (λUS=>Cl (aT O) O (λh=>Nq (id US) (Cm h)))<|AI O (oo 47 O id (AP 54 O)) (λ_=>gR UF (aT O) (aT O))<|cP (Cu (aT O) O Cv)<|cF [0,5,9,10,56] O<|gQ O q (λq=>rS<|cB<|cF [6] O<|AF (Ab q O)) λq=>AG (A8 (Cx q λ_ Df _ Dl _ EG q=>gE 7 mixed<|dM 0 O<|dP [57] O (oC (XN Df) O)<|dP [5] O (Au O DM)<|dP [59] O (oC (kb Dl) O)<|dP [58,60] O (bS Ha Hp O O)<|dP [61] O (oC (uZ EG) O)<|dP [62] O (oA O)<|dN<|dE [0,5,9,10,11] O A7<|cD<|A9<|rS<|cM<|cP (Cr (aT O) aI)<|cF [0,5,9,10,11,64] O<|gQ O q (λq=>AE q λ_ FY q=>BW q λ_ FX q=>rS<|cM<|cM<|cM<|cP (Fm (uX FY) (AT.cons (aT O) (AT.cons (aT O) (AT.cons (aT O) (AT.cons Arg.nl AT.nil)))))<|cM<|AI O on (λaR=>oC (lZ (FX aR)) O)<|cP (Cl (aT O) O Cm)<|cA<|cF [6] O<|AF (Ab q O)) λq=>AG (A8 (BP q λ_ HN _ Hf q=>BW q λ_ K1 q=>rS<|cM<|cM<|cM<|cU O DM<|cC (ag1 HN) O<|cC (uX Hf) O<|cM<|AI O on (λUb=>oC (lZ (K1 Ub)) O)<|cP (Cl (aT O) O Cm)<|cA<|cF [6] O<|AF (Ab q O)))))))
end
end Trn
