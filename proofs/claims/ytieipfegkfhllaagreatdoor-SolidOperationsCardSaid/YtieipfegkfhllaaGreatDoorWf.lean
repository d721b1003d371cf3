/-
  Part of the proof of SolidOperations.
-/
import Derived.Test.YtieipfegkfhllaaGreatDoorWe
set_option maxRecDepth 100000
set_option maxHeartbeats 20000000
set_option linter.all false
open Go Go.RowKit Go.Proofs Go.Proofs.Tryz
namespace Trn
section
variable[D:DR]
def adF{a0 a1 r}(q:Uv a0 a1=some r):AS 3 [(TL (TL Af)) a0,(TL (TL Af)) a1] [Aw r]:=AY func3 O A7<|rS<|cB<|A5 3 O<|A9<|AE q λ_ h2 q=>BP q λ_ h4 q=>rS<|cM<|cC (uv h2) O<|cM<|AI O (AX 1 O) (λ_=>oM O)<|AI O (AT 15 O) (λhg2=>oC (uv (h4 hg2)) O)<|cP (D4 (aT O) O D5)<|A5 131075 O<|gQ O q (λq=>AE q λ_ h7 q=>rS<|cC (mB h7) O<|cA<|cF [4] O<|AF (Ab q O)) λq=>AG (A8 (AE q λ_ h9 q=>rS<|cM<|cM<|cC (vZ h9) O<|cZ<|cE<|cE<|cA<|cA<|A5 99 O<|AE q λ_ Be q=>rS<|cM<|cM<|cC (ug Be) O<|cZ<|cE<|cE<|cA<|cA<|A5 483 O<|AE q λ_ M q=>rS<|cM<|cM<|cC (uf M) O<|cZ<|cE<|cE<|cA<|cA<|A5 2019 O<|Cs q λ_ P _ S _ CW q=>rS<|cM<|cC (bm P) O<|cM<|cC (bm S) O<|cP (bS Ho IG O O)<|cC (af2 CW) O<|cA<|A5 4067 O<|A9<|rS<|cM<|cP (Cx (aT O) aI)<|A5 17592186048483 O<|gQ O q (λq=>AE q λ_ Df q=>BP q λ_ Dm q=>BP q λ_ EG q=>BP q λ_ Eu q=>rS<|cM<|cM<|cM<|cP (FX (VI Df) (AP.cons (aT O) (AP.cons (aT O) (AP.cons (aT O) (AP.cons Arg.nl AP.nil)))))<|cM<|AI O (AX 7 O) (λ_=>oM O)<|AI O (AX 8 O) (λ_=>oM O)<|AI O (AX 11 O) (λ_=>oM O)<|AI O (oo 50 O id (oo 51 O id (AT 52 O))) (λIq=>FX (VI (Dm Iq)) (AP.cons (aT O) (AP.cons (aT O) (AP.cons (aT O) (AP.cons Arg.nl AP.nil)))))<|cP (Ci (aT O) O Cj)<|cM<|AI O (AX 9 O) (λ_=>oM O)<|AI O (AX 10 O) (λ_=>oM O)<|AI O (AX 11 O) (λ_=>oM O)<|AI O (oo 56 O id (oo 57 O id (AT 58 O))) (λUR=>FX (VI (EG UR)) (AP.cons (aT O) (AP.cons (aT O) (AP.cons (aT O) (AP.cons Arg.nl AP.nil)))))<|cP (Ci (aT O) O Cj)<|cM<|AI O on (λN6=>oC (mB (Eu N6)) O)<|cP (Ci (aT O) O Cj)<|cA<|cF [4] O<|AF (Ab q O)) λq=>AG (A8 (BQ q λ_ GV _ G2 q=>BP q λ_ Gy q=>BP q λ_ HU q=>BP q λ_ Gx q=>BP q λ_ Gw q=>BP q λ_ K4 q=>rS<|cM<|cM<|cM<|cM<|cC (ag9 GV) O<|cC (VI G2) O<|cM<|AI O (AX 7 O) (λ_=>oM O)<|AI O (AX 8 O) (λ_=>oM O)<|AI O (AX 0 O) (λ_=>oM O)<|AI O (AX 1 O) (λ_=>oM O)<|AI O (oo 73 O id (AT 74 O)) (λaZ=>oC (uj (Gy aZ)) O)<|AI O (oo 71 O id (oo 72 O id (AT 75 O))) (λUh=>oC (VI (HU Uh)) O)<|cP (Ci (aT O) O Cj)<|cM<|AI O (AX 9 O) (λ_=>oM O)<|AI O (AX 10 O) (λ_=>oM O)<|AI O (AX 0 O) (λ_=>oM O)<|AI O (AX 1 O) (λ_=>oM O)<|AI O (oo 81 O id (AT 82 O)) (λrG=>oC (aev (Gx rG)) O)<|AI O (oo 79 O id (oo 80 O id (AT 83 O))) (λbC=>oC (VI (Gw bC)) O)<|cP (Ci (aT O) O Cj)<|cM<|AI O on (λrQ=>oC (mB (K4 rQ)) O)<|cP (Ci (aT O) O Cj)<|cA<|cF [4] O<|AF (Ab q O)))))
end
end Trn
