/-
  Part of the proof of DrawViews.
-/
import Derived.Test.YtgmphoejohhmgaaGreatDoorWb
set_option maxRecDepth 100000
set_option maxHeartbeats 20000000
set_option linter.all false
open Go Go.RowKit Go.Proofs Go.Proofs.Tryz
namespace Trn
section
variable[D:DR]
def jS{a0 r}(q:eP a0=some r):al prog 33 [aW a0] (.vs [TiZ r]):=by
 refine c7 func33 O ntmps33 (by kernel_rfl) fun w0 H0=>rS<|cX<|cI<|ak 2 O ?_
 obtain⟨x1,h2,q⟩:=ab q;refine rS<|cG (pT (t:=1) O)<|cP (Zf jC (uc O (uc O (uc O un))) O (aT O))<|cC (Je h2) O<|cA<|ak 4 O ?_
 cases q;exact an (r1 O)
def sOf{x r:Int}(hm:aOf x=some r):al prog 137 [TI .i64 x] (.vs [mP r]):=by
 have h1:CU x/\x=r:=by
  unfold aOf aF at hm;cases hb:A6 x
  ·rw[hb] at hm;cases hm
  ·rw[hb] at hm;refine⟨?_,fj hm⟩;unfold A6 at hb;obtain⟨a,b⟩:=eK hb;exact⟨bf a,bf b⟩
 obtain⟨h1,rfl⟩:=h1;have:=C9 (a0:=x) (r:=(x,[])) rfl;exact Dk (by kernel_rfl) fun H vs gq=>⟨_,_,gq,this,Tu (.inl ⟨rfl,rfl,h1⟩)⟩
def SL{a0 r}(q:DH a0=some r):al prog 136 [mP a0] (.vs [aX r]):=by
 refine c7 func136 O ntmps136 (by kernel_rfl) fun w0 H0=>rS<|cX<|cT V<|ak 6 O ?_
 obtain⟨x1,h2,x3,h4,q⟩:=b2 q;refine gE 4 mixed<|dP [1] O (ae O m)<|dP [] O (oC (sOf h2) O)<|dP [3,4] O (sY (bB Qx M4 O) (VH h4))<|dS [2,5] O (ds O O O d)<|dN<|dE [2] O (by kernel_rfl)<|cD ?_
 cases q;exact an (q1 O d)
def Ni{x:Int}{r:Rat}(hm:J5 x=some r):al prog 136 [mP x] (.vs [aX r]):=by
 have hm:=fj hm;subst hm;exact SL (Wh x)
def jT{a0 r}(q:ir a0=some r):al prog 77 [TS a0] (.vs [aX r]):=by
 refine c7 func77 O ntmps77 (by kernel_rfl) fun w0 H0=>rS<|cT V<|ak 5 O ?_
 obtain⟨x1,h2,q⟩:=ab q;refine rS<|cM<|cP (fL (agj h2) (aJ.cons (aT O) (aJ.cons (Arg.s O) aJ.nil)))<|cZ<|cE<|cE<|cE<|cA<|cA<|cA<|ak 60 O<|ah<|rS<|cM<|cP (jF (aT O))<|ak 8220 O<|gc O q (fun hb3 q=>?_) fun hb3 q=>?_
 ·obtain⟨x4,h5,x6,h7,q⟩:=b2 q;refine rS<|cM<|cC (Te h5) O<|cC (Ni h7) O<|cs O O O d<|ak 4 O ?_
  cases q;exact an (q1 O d)
 ·refine aj (aw ?_);obtain⟨x8,h9,dz,jv,fp,kU,q⟩:=b3 q;refine rS<|cM<|cC (Te h9) O<|cM<|cC (Te jv) O<|cP (sY (bB Qx M4 O) (VH kU))<|cs O O O d<|ak 4 O ?_
  cases q;exact an (q1 O d)
def gT{a0 r}(q:eM a0=some r):al prog 36 [aW a0] (.vs [ar r]):=by
 refine c7 func36 O ntmps36 (by kernel_rfl) fun w0 H0=>rS<|cX<|cT bY<|ak 6 O ?_
 obtain⟨x1,h2,x3,h4,x5,h6,q⟩:=b3 q;refine gE 11 mixed<|dP [1] O (iO O jC O)<|dP [3,1] O (oP 0 O O X)<|dP [4] O (oC (jT h2) O)<|dP [1] O (iO O jC O)<|dP [6,1] O (oP 1 O O X)<|dP [7] O (oC (jT h4) O)<|dP [1] O (iO O jC O)<|dP [9,1] O (oP 2 O O X)<|dP [10] O (oC (jT h6) O)<|dP [5,8,11] O (bA rl M O O)<|dS [2,12] O (ds O O O g)<|dN<|dE [2] O (by kernel_rfl)<|cD ?_
 cases q;exact an (q1 O g)
def zW{a0 a1 r}(q:qY a0 a1=some r):al prog 222 [aZ a0,aZ a1] (.vs [aZ r]):=by
 refine c7 func222 O ntmps222 (by kernel_rfl) fun w0 H0=>rS<|cX<|cX<|cT gv<|ak 28 O<|ah ?_
 obtain⟨x1,h2,q⟩:=ab q;refine rS<|cU O m<|cC (mS h2) O<|cP (eC (aT O) aI)<|ak 540 O<|uU [4] O (α:=(Int×ard Int)×(Int×ard Int)) (fun s3=>[(2,.own 85 (aZ s3.1)),(3,.own 85 (aZ s3.2))]) q (fun k4 q=>?_) (fun s3 q=>?_)
 ·refine gc O q (fun CN q=>?_) fun CN q=>?_
  ·obtain⟨x6,h7,x8,h9,q⟩:=b2 q;exact gD 6 mixed<|dP [2] O (ae O m)<|dP [10] O (oC (kZ h7) O)<|dP [3] O (ae O m)<|dP [12] O (oC (kZ h9) O)<|dS [2,11] O (ds O O O m)<|dS [3,13] O (ds O O O m)<|dN<|dE [2,3,4] O (by kernel_rfl)<|cD (cm q O)
  ·exact aj (cm q O)
 ·refine aw ?_;obtain⟨dz,jv,q⟩:=ab q;refine rS<|cU O m<|cU O m<|cC (AL jv) O<|cZ<|cE<|cE<|cT gv<|cT gv<|cs O O O m<|cs O O O m<|ak 48 O<|rS<|cU O m<|cs O O O m<|cF [4] O ?_
  cases q;exact an (q1 O m)
def Va{a0 a1 r}(q:Ge a0 a1=some r):al prog 141 [aZ a0,aZ a1] (.vs [Cq r]):=by
 refine c7 func141 O ntmps141 (by kernel_rfl) fun w0 H0=>rS<|cX<|cX<|cT Mr<|ak 28 O<|ah ?_
 obtain⟨x1,h2,q⟩:=ab q;refine rS<|cU O m<|cC (mS h2) O<|cP (eC (aT O) aI)<|ak 284 O<|uU [4] O (α:=(Int×ard Int)×(Int×ard Int)) (fun s3=>[(2,.own 85 (aZ s3.1)),(3,.own 85 (aZ s3.2))]) q (fun k4 q=>?_) (fun s3 q=>?_)
 ·refine gc O q (fun CN q=>?_) fun CN q=>?_
  ·obtain⟨x6,h7,x8,h9,q⟩:=b2 q;exact gD 6 mixed<|dP [2] O (ae O m)<|dP [9] O (oC (kZ h7) O)<|dP [3] O (ae O m)<|dP [11] O (oC (kZ h9) O)<|dS [2,10] O (ds O O O m)<|dS [3,12] O (ds O O O m)<|dN<|dE [2,3,4] O (by kernel_rfl)<|cD (cm q O)
  ·exact aj (cm q O)
 ·refine aw ?_;refine ah<|rS<|jg 1 O nI O yJ<|cP (qo dU (aT O))<|cM<|gV O O (ov 3 O on) (fun rW=>a8 O gz)<|gV O O (oo 17 O id (ov 3 O on)) (fun hg2=>oP 0 O O C)<|gV O O (oo 18 O id on) (fun P=>df (aT O) aI)<|cP (dh (aT O) O je)<|ak 1048604 O<|gc O q (fun wO q=>?_) fun wO q=>?_
  ·refine rS<|cU O m<|cU O m<|cP (bB Mr M4 O)<|cs O O O d<|cF [4] O ?_
   cases q;exact an (q1 O d)
  ·refine aj (aw ?_);obtain⟨iM,qC,q⟩:=ab q;refine rS<|cU O m<|cU O m<|cC (PH qC) O<|cT gv<|cs O O O m<|ak 60 O ?_
   obtain⟨iW,nJ,kd,S,q⟩:=b2 q;refine gE 8 mixed<|dP [2] O (ae O m)<|dP [5] O (ae O m)<|dP [27,28] O (oC (zW nJ) O)<|dP [3] O (ae O m)<|dP [5] O (ae O m)<|dP [30,31] O (oC (zW S) O)<|dP [29,32] O (bB Mr M4 O)<|dS [4,33] O (ds O O O d)<|dN<|dE [4] O (by kernel_rfl)<|cD ?_
   cases q;exact an (q1 O d)
def apS{H:HV}{v:apU}{τ1 τ2 σ1 σ2:Ty}(h1:∀v,τ1.ok H v->σ1.ok H v)(h2:∀v,τ2.ok H v->σ2.ok H v):(fJ [τ1,τ2]).ok H v->(fJ [σ1,σ2]).ok H v:=by
 rintro⟨cs,e,a,r1,e1,ha,b,r2,e2,hb,e3⟩;exact⟨cs,e,a,r1,e1,h1 _ ha,b,r2,e2,h2 _ hb,e3⟩
def W9{x y:Int}{r:Rat}(hm:FV x y=some r):al prog 141 [mP x,mP y] (.vs [aX r]):=by
 obtain⟨hb,rfl⟩:=iL hm;obtain⟨hb,h3⟩:=eK hb;obtain⟨h1,h2⟩:=eK hb;rw[gY,kE] at h3;exact Z3 (by kernel_rfl) fun r s hr hs=>by
  obtain⟨q,e,hq,hq'⟩:=abv hr hs h1 h2 h3;refine⟨_,Va e,fun H v h=>?_⟩;exact apS (fun _=>QU hq) (fun _=>QU hq') h
def Tf{x y:Int}{r:Int}(hm:CR x y=some r):al prog 142 [mP x,mP y] (.vs [mP r]):=by
 obtain⟨hb,rfl⟩:=iL hm;obtain⟨h1,h2⟩:=eK hb;exact Z3 (by kernel_rfl) fun r s hr hs=>by obtain⟨q,e,hq⟩:=Xo hr hs h1 h2;exact⟨_,vd e,Tu hq⟩
def MJ{a0 a1 r}(q:yp a0 a1=some r):al prog 71 [aX a0,aX a1] (.vs [aX r]):=by
 refine c7 func71 O ntmps71 (by kernel_rfl) fun w0 H0=>rS<|cX<|cX<|cT V<|ak 28 O ?_
 obtain⟨x1,h2,x3,h4,x5,h6,q⟩:=b3 q;refine gE 12 mixed<|dQ 0 O nH O m<|dQ 0 O nH O m<|dP [6,8] O (oC (Tf h2) O)<|dQ 1 O mR O m<|dQ 1 O mR O m<|dP [11,13] O (oC (Tf h4) O)<|dP [9,14] O (oC (W9 h6) O)<|dS [4,15] O (ds O O O d)<|dN<|dE [4] O (by kernel_rfl)<|cD ?_
 cases q;exact an (q1 O d)
def ang{x:Int}{r:Int}(hm:amq x=some r):al prog 138 [mP x] (.vs [mP r]):=by
 have hm:=fj hm;subst hm;exact Z4 (by kernel_rfl) fun r hr=>by obtain⟨q,e,hq⟩:=zh hr;exact⟨_,kZ e,Tu hq⟩
def MI{a0 r}(q:yo a0=some r):al prog 68 [aX a0] (.vs [aX r]):=by
 refine c7 func68 O ntmps68 (by kernel_rfl) fun w0 H0=>rS<|cX<|cT V<|ak 6 O ?_
 obtain⟨x1,h2,x3,h4,q⟩:=b2 q;refine gE 7 mixed<|dQ 0 O nH O m<|dP [4] O (oC (ang h2) O)<|dQ 1 O mR O m<|dP [5,7] O (sY (bB Qx M4 O) (VH h4))<|dS [2,8] O (ds O O O d)<|dN<|dE [2] O (by kernel_rfl)<|cD ?_
 cases q;exact an (q1 O d)
def F2{a0 r}(q:yq a0=some r):al prog 139 [Cq a0] (.vs [aY r]):=by
 unfold yq at q;refine c7 func139 O ntmps139 (by kernel_rfl) fun w0 H0=>rS<|cX<|cB<|ak 2 O<|rS<|cK O mR<|cP (jr O nI)<|cP (b9 O O (aP.trans (aP.agg (i:=1) O O) O (aP.agg (i:=1) O O)) yJ)<|cP (qo dU (aT O))<|cM<|gV O O (ov 1 O on) (fun rW=>a8 O mR)<|gV O O (oo 8 O id (ov 1 O on)) (fun hg2=>jr O gz)<|gV O O (oo 9 O id (ov 1 O on)) (fun P=>b9 O O (aP.trans (aP.agg (i:=1) O O) O (aP.agg (i:=0) O O)) C)<|gV O O (oo 10 O id on) (fun wk=>df (aT O) aI)<|cP (dh (aT O) O je)<|cA<|ak 4 O ?_
 cases q;exact an (r1 O)
def akg{x y:Int}{r:Int}(hm:UJ x y=some r):al prog 140 [mP x,mP y] (.vs [mP r]):=by
 obtain⟨hb,rfl⟩:=iL hm;obtain⟨h1,h2⟩:=eK hb;exact Z3 (by kernel_rfl) fun r s hr hs=>by obtain⟨q,e,hq⟩:=LC hr hs (by have:=hr.len h1;omega) (by have:=hs.len h2;omega);exact⟨_,ve e,Tu hq⟩
def Nj{x:Rat}{r:Bool}(hm:lQ x=some r):al prog 139 [aX x] (.vs [aY r]):=by
 have hm:=fj hm;subst hm;refine Dk (by kernel_rfl) fun H vs gq=>?_
 obtain⟨u,rfl,hu⟩:=sZ gq;obtain⟨cs,e,a,r1,e1,⟨p,hp,hpa⟩,b,r2,e2,⟨q,hq,Uc⟩,e3⟩:=hu;refine⟨[Cq (p,q)],[aY ((List.isEmpty q.2)&&(decide (q.1=(1:Int))))],⟨u,[],rfl,⟨cs,e,a,r1,e1,hpa,b,r2,e2,Uc,e3⟩,rfl⟩,F2 (a0:=(p,q)) rfl,fun _ _ h=>?_⟩;rw[qI.one hq] at h;have:decide ((x.den:Int)=1)=decide (x.den=1):=zB.2 (by omega);rw[this] at h;exact h
def MN{a0 a1 r}(q:yv a0 a1=some r):al prog 69 [aX a0,aX a1] (.vs [aX r]):=by
 refine c7 func69 O ntmps69 (by kernel_rfl) fun w0 H0=>rS<|cX<|cX<|cT V<|ak 28 O<|ah ?_
 obtain⟨x1,h2,q⟩:=ab q;obtain⟨x3,h4,q⟩:=aH q;refine rS<|cU O d<|cC (Nj h2) O<|cM<|gV O O (ov 3 O on) (fun rW=>ae O d)<|gV O O (oo 8 O id on) (fun hg2=>oC (Nj (h4 hg2)) O)<|cP (dh (aT O) O je)<|ak 1052 O<|gc O q (fun CN q=>?_) fun CN q=>?_
 ·obtain⟨x6,h7,x8,h9,q⟩:=b2 q;refine rS<|jg 0 O nH O m<|jg 0 O nH O m<|cC (akg h7) O<|cC (Ni h9) O<|cs O O O d<|cF [4] O ?_
  cases q;exact an (q1 O d)
 ·refine aj (aw ?_);obtain⟨dz,jv,fp,kU,gp,mu,gS,Q,iZ,qi,q⟩:=b5 q;refine gE 18 mixed<|dQ 0 O nH O m<|dQ 1 O mR O m<|dP [18,20] O (oC (Tf jv) O)<|dQ 0 O nH O m<|dQ 1 O mR O m<|dP [23,25] O (oC (Tf kU) O)<|dP [21,26] O (oC (akg mu) O)<|dQ 1 O mR O m<|dQ 1 O mR O m<|dP [29,31] O (oC (Tf Q) O)<|dP [27,32] O (oC (W9 qi) O)<|dS [4,33] O (ds O O O d)<|dN<|dE [4] O (by kernel_rfl)<|cD ?_
  cases q;exact an (q1 O d)
def Dj{x y r:Rat}(hm:Bv x y=some r):al prog 69 [aX x,aX y] (.vs [aX r]):=by
 obtain⟨hb,rfl⟩:=iL hm;obtain⟨h1,h2⟩:=eK hb;exact MN (acQ h1 h2)
def FC{x:Rat}{r:Rat}(hm:Np x=some r):al prog 68 [aX x] (.vs [aX r]):=by
 have hm:=fj hm;subst hm;exact MI (acL x)
def MH{a0 a1 r}(q:yn a0 a1=some r):al prog 78 [aX a0,aX a1] (.vs [aX r]):=by
 refine c7 func78 O ntmps78 (by kernel_rfl) fun w0 H0=>rS<|cX<|cX<|cT V<|ak 28 O ?_
 obtain⟨x1,h2,x3,h4,q⟩:=b2 q;refine gE 5 mixed<|dP [2] O (ae O d)<|dP [3] O (ae O d)<|dP [6] O (oC (FC h2) O)<|dP [5,7] O (oC (Dj h4) O)<|dS [4,8] O (ds O O O d)<|dN<|dE [4] O (by kernel_rfl)<|cD ?_
 cases q;exact an (q1 O d)
def kh{x y r:Rat}(hm:nr x y=some r):al prog 71 [aX x,aX y] (.vs [aX r]):=by
 obtain⟨hb,rfl⟩:=iL hm;obtain⟨h1,h2⟩:=eK hb;exact MJ (acM h1 h2)
def vL{x y r:Rat}(hm:AV x y=some r):al prog 78 [aX x,aX y] (.vs [aX r]):=by
 obtain⟨hb,rfl⟩:=iL hm;obtain⟨h1,h2⟩:=eK hb;exact MH (acK h1 h2)
def jw{a0 a1 r}(q:gx a0 a1=some r):al prog 98 [ar a0,ar a1] (.vs [ar r]):=by
 refine c7 func98 O ntmps98 (by kernel_rfl) fun w0 H0=>rS<|cX<|cX<|cT bY<|ak 28 O ?_
 obtain⟨x1,h2,x3,h4,x5,h6,x7,h8,x9,kG,iM,qC,q⟩:=b6 q;obtain⟨iW,nJ,kd,S,iP,T,q⟩:=b3 q;refine gE 35 mixed<|dP [2] O (iO O M O)<|dP [5,2] O (oP 1 O O d)<|dP [3] O (iO O M O)<|dP [7,3] O (oP 2 O O d)<|dP [6,8] O (oC (kh h2) O)<|dP [2] O (iO O M O)<|dP [10,2] O (oP 2 O O d)<|dP [3] O (iO O M O)<|dP [12,3] O (oP 1 O O d)<|dP [11,13] O (oC (kh h4) O)<|dP [9,14] O (oC (vL h6) O)<|dP [2] O (iO O M O)<|dP [16,2] O (oP 2 O O d)<|dP [3] O (iO O M O)<|dP [18,3] O (oP 0 O O d)<|dP [17,19] O (oC (kh h8) O)<|dP [2] O (iO O M O)<|dP [21,2] O (oP 0 O O d)<|dP [3] O (iO O M O)<|dP [23,3] O (oP 2 O O d)<|dP [22,24] O (oC (kh kG) O)<|dP [20,25] O (oC (vL qC) O)<|dP [2] O (iO O M O)<|dP [27,2] O (oP 0 O O d)<|dP [3] O (iO O M O)<|dP [29,3] O (oP 1 O O d)<|dP [28,30] O (oC (kh nJ) O)<|dP [2] O (iO O M O)<|dP [32,2] O (oP 1 O O d)<|dP [3] O (iO O M O)<|dP [34,3] O (oP 0 O O d)<|dP [33,35] O (oC (kh S) O)<|dP [31,36] O (oC (vL T) O)<|dP [15,26,37] O (bA rl M O O)<|dS [4,38] O (ds O O O g)<|dN<|dE [4] O (by kernel_rfl)<|cD ?_
 cases q;exact an (q1 O g)
def o0{a0 r}(q:jA a0=some r):al prog 34 [cz a0] (.vs [Ec r]):=by
 refine c7 func34 O ntmps34 (by kernel_rfl) fun w0 H0=>rS<|cX<|cT xK<|ak 6 O ?_
 obtain⟨x1,h2,x3,h4,x5,h6,q⟩:=b3 q;refine gE 12 mixed<|dQ 0 O ET O B<|dP [5] O (oC (gT h2) O)<|dQ 1 O zK O B<|dP [8] O (oC (gT h4) O)<|dQ 2 O zJ O B<|dP [11] O (oC (gT h6) O)<|dP [6,9,12] O (bB ad2 ahb O)<|dP [] O (gW xK)<|dS [3,13] O (ds O O O CG)<|dN<|dE [2,3] O (by kernel_rfl)<|cD ?_
 obtain⟨x7,h8,q⟩:=ab q;refine rS<|jg 1 O Mk O g<|jg 2 O Mj O g<|cC (jw h8) O<|cK O zI<|cS (M7 O O (aT O) (il.agg (i:=3) O O O) g)<|ak 12 O<|rS<|cU O CG<|cs O O O CG<|ak 4 O ?_
 cases q;exact an (q1 O CG)
def agk{x:Int}{r:Int}(hm:adt x=some r):al prog 104 [mP x] (.vs [TI .i64 r]):=by
 have hm:=fj hm;subst hm;exact Z4 (by kernel_rfl) fun r hr=>⟨_,mS (AY hr),fun _ _ h=>h⟩
def KT{a0 r}(q:K6 a0=some r):al prog 50 [aX a0] (.vs [TiZ r]):=by
 refine c7 func50 O ntmps50 (by kernel_rfl) fun w0 H0=>rS<|cX<|cI<|ak 2 O ?_
 obtain⟨x1,h2,q⟩:=ab q;refine rS<|jg 0 O nH O m<|cC (agk h2) O<|cA<|ak 4 O ?_
 cases q;exact an (r1 O)
def ja{x:Rat}{r:Int}(hm:j9 x=some r):al prog 50 [aX x] (.vs [TI .i64 r]):=by
 have hm:=fj hm;subst hm;exact KT (a0:=x) rfl
def ln{a0 r}(q:fu a0=some r):al prog 48 [ar a0] (.vs [aY r]):=by
 refine c7 func48 O ntmps48 (by kernel_rfl) fun w0 H0=>rS<|cX<|cB<|ak 2 O ?_
 obtain⟨x1,h2,q⟩:=ab q;obtain⟨x3,h4,q⟩:=aH q;obtain⟨x5,h6,q⟩:=aH q;refine rS<|cP (iO O M O)<|cV 0 O O d<|cC (ja h2) O<|cP (df (aT O) aI)<|cM<|gV O O (ov 1 O on) (fun rW=>iO O M O)<|gV O O (oo 8 O id (ov 1 O on)) (fun hg2=>oP 1 O O d)<|gV O O (oo 9 O id on) (fun P=>oC (ja (h4 P)) O)<|gV O O (oo 10 O id on) (fun wk=>df (aT O) aI)<|cP (dh (aT O) O je)<|cM<|gV O O (ov 1 O on) (fun Az=>iO O M O)<|gV O O (oo 14 O id (ov 1 O on)) (fun CL=>oP 2 O O d)<|gV O O (oo 15 O id on) (fun JQ=>oC (ja (h6 JQ)) O)<|gV O O (oo 16 O id on) (fun OQ=>df (aT O) aI)<|cP (dh (aT O) O je)<|cA<|ak 4 O ?_
 cases q;exact an (r1 O)
def sj{a0 a1 r}(q:jx a0 a1=some r):al prog 47 [aY a0,TiZ a1] (.vs [TiZ r]):=by
 refine c7 func47 O ntmps47 (by kernel_rfl) fun w0 H0=>rS<|cI<|ak 3 O<|ah<|rS<|cM<|ak 34 O<|gc O q (fun hb1 q=>?_) fun hb1 q=>?_
 ·refine rS<|cM<|cA<|cF [4] O ?_
  cases q;exact an (r1 O)
 ·refine aj<|aw<|rS<|cI<|cF [4] O ?_
  cases q;exact an (r1 O)
def fg{a0 a1 r}(q:dm a0 a1=some r):al prog 49 [ar a0,ar a1] (.vs [aX r]):=by
 refine c7 func49 O ntmps49 (by kernel_rfl) fun w0 H0=>rS<|cX<|cX<|cT V<|ak 28 O ?_
 obtain⟨x1,h2,x3,h4,x5,h6,x7,h8,x9,kG,q⟩:=b5 q;refine gE 18 mixed<|dP [2] O (iO O M O)<|dP [5,2] O (oP 0 O O d)<|dP [3] O (iO O M O)<|dP [7,3] O (oP 0 O O d)<|dP [6,8] O (oC (kh h2) O)<|dP [2] O (iO O M O)<|dP [10,2] O (oP 1 O O d)<|dP [3] O (iO O M O)<|dP [12,3] O (oP 1 O O d)<|dP [11,13] O (oC (kh h4) O)<|dP [9,14] O (oC (Dj h6) O)<|dP [2] O (iO O M O)<|dP [16,2] O (oP 2 O O d)<|dP [3] O (iO O M O)<|dP [18,3] O (oP 2 O O d)<|dP [17,19] O (oC (kh h8) O)<|dP [15,20] O (oC (Dj kG) O)<|dS [4,21] O (ds O O O d)<|dN<|dE [4] O (by kernel_rfl)<|cD ?_
 cases q;exact an (q1 O d)
def iJ{a0 r}(q:fz a0=some r):al prog 32 [(TL TiZ) a0] (.vs [TiZ r]):=by
 refine c7 func32 O ntmps32 (by kernel_rfl) fun w0 H0=>rS<|cI<|ak 1 O<|ah<|rS<|cM<|cJ XF O<|cN<|ak 224 O<|ai<|jj [5,6] O (σ:=Int) (fun s1=>[(7,.val (TiZ s1))]) q O (fun k2 s1 q=>?_)
 refine rS<|cL O O<|ak 480 O<|ah<|gc O q (fun hb3 q=>?_) fun hb3 q=>?_
 ·refine aj<|aw<|ah<|ai ?_
  obtain⟨x4,h5,q⟩:=ab q;refine rS<|cP (oX aaW (dI O) O O h5)<|cR O Kv<|cA<|ak 240 O<|rS<|cM<|cP (da (aT O) aI)<|ak 4336 O<|gc O q (fun Pp q=>?_) fun Pp q=>?_
  ·refine rS<|cM<|cA<|ak 4 O ?_
   cases q;exact an (r1 O)
  ·refine aj (aw ?_);obtain⟨x7,h8,q⟩:=ab q;exact rK<|cH O h8<|cO (oM O)<|ak 224 O (cm q O)
 ·refine aN<|aw<|rS<|cI<|ak 4 O ?_
  cases q;exact an (r1 O)
def jU{a0 r}(q:gG a0=some r):al prog 12 [cz a0] (.vs [TiZ r]):=by
 refine c7 func12 O ntmps12 (by kernel_rfl) fun w0 H0=>rS<|cX<|cI<|ak 2 O<|ah ?_
 obtain⟨x1,h2,q⟩:=ab q;refine rS<|jg 0 O ET O B<|jg 1 O zK O B<|jg 2 O zJ O B<|cP (bS jR Oy O O)<|cP (fL (E6 h2) (aJ.cons (aT O) (aJ.cons (Arg.fn fun _ _ h=>jS (D:=DR.strict) h) aJ.nil)))<|cA<|ak 10 O<|rS<|cM<|cP (da (aT O) aI)<|ak 16394 O<|gc O q (fun hb3 q=>?_) fun hb3 q=>?_
 ·refine rS<|cM<|cA<|ak 4 O ?_
  cases q;exact an (r1 O)
 ·refine aj (aw ?_);obtain⟨x4,h5,q⟩:=ab q;refine rS<|cU O kv<|cC (o0 h5) O<|cT xK<|cs O O O CG<|cF [4] O ?_
  obtain⟨x6,h7,q⟩:=ab q;obtain⟨x8,h9,q⟩:=aH q;obtain⟨dz,jv,fp,kU,gp,mu,gS,Q,iZ,qi,q⟩:=b5 q;refine gE 20 mixed<|dQ 1 O Mk O g<|dP [19] O (oC (ln h7) O)<|dP [20] O (oM O)<|dV [4,21] O O O (ov 4 O on) (fun rW=>a8 O Mj)<|dV [21,22,4] O O O (oo 22 O id (ov 4 O on)) (fun hg2=>oP 2 O O g)<|dV [21,23] O O O (oo 23 O id on) (fun P=>oC (ln (h9 P)) O)<|dP [21,24] O (fO (aT O) O jY)<|dP [25] O (oC (sj jv) O)<|dQ 1 O Mk O g<|dQ 2 O Mj O g<|dP [28,30] O (oC (fg kU) O)<|dP [31] O (oC (ja mu) O)<|dP [32] O (da (aT O) aI)<|dP [33] O (oC (sj Q) O)<|dP [26,34] O (bS sJ uW O O)<|dP [35] O (oC (iJ qi) O)<|dP [36] O (oA O)<|dN<|dE [2] O (by kernel_rfl)<|cD ?_
  cases q;exact an (r1 O)
def iB{a0 a1 r}(q:fS a0 a1=some r):al prog 41 [ar a0,ar a1] (.vs [ar r]):=by
 refine c7 func41 O ntmps41 (by kernel_rfl) fun w0 H0=>rS<|cX<|cX<|cT bY<|ak 28 O ?_
 obtain⟨x1,h2,x3,h4,x5,h6,q⟩:=b3 q;refine gE 17 mixed<|dP [2] O (iO O M O)<|dP [5,2] O (oP 0 O O d)<|dP [3] O (iO O M O)<|dP [7,3] O (oP 0 O O d)<|dP [6,8] O (oC (vL h2) O)<|dP [2] O (iO O M O)<|dP [10,2] O (oP 1 O O d)<|dP [3] O (iO O M O)<|dP [12,3] O (oP 1 O O d)<|dP [11,13] O (oC (vL h4) O)<|dP [2] O (iO O M O)<|dP [15,2] O (oP 2 O O d)<|dP [3] O (iO O M O)<|dP [17,3] O (oP 2 O O d)<|dP [16,18] O (oC (vL h6) O)<|dP [9,14,19] O (bA rl M O O)<|dS [4,20] O (ds O O O g)<|dN<|dE [4] O (by kernel_rfl)<|cD ?_
 cases q;exact an (q1 O g)
def MK{a0 r}(q:yr a0=some r):al prog 143 [aX a0] (.vs [aX r]):=by
 refine c7 func143 O ntmps143 (by kernel_rfl) fun w0 H0=>rS<|cX<|cT V<|ak 6 O ?_
 obtain⟨x1,h2,q⟩:=ab q;refine rS<|jg 1 O mR O m<|jg 0 O nH O m<|cC (W9 h2) O<|cs O O O d<|ak 4 O ?_
 cases q;exact an (q1 O d)
def akd{x r:Rat}(hm:aeQ x=some r):al prog 143 [aX x] (.vs [aX r]):=by
 obtain⟨hb,rfl⟩:=iL hm;obtain⟨h1,h3⟩:=eK hb;rw[gY,kE] at h3;exact MK (acN h1 h3)
def ML{a0 a1 r}(q:yt a0 a1=some r):al prog 70 [aX a0,aX a1] (.vs [aX r]):=by
 refine c7 func70 O ntmps70 (by kernel_rfl) fun w0 H0=>rS<|cX<|cX<|cT V<|ak 28 O ?_
 obtain⟨x1,h2,x3,h4,q⟩:=b2 q;refine gE 5 mixed<|dP [2] O (ae O d)<|dP [3] O (ae O d)<|dP [6] O (oC (akd h2) O)<|dP [5,7] O (oC (kh h4) O)<|dS [4,8] O (ds O O O d)<|dN<|dE [4] O (by kernel_rfl)<|cD ?_
 cases q;exact an (q1 O d)
def Di{x y r:Rat}(hm:HH x y=some r):al prog 70 [aX x,aX y] (.vs [aX r]):=by
 obtain⟨hb,rfl⟩:=iL hm;obtain⟨hb,h3⟩:=eK hb;obtain⟨h1,h2⟩:=eK hb;rw[gY,kE] at h3;exact ML (acO h1 h2 h3)
def l9{a0 a1 r}(q:jy a0 a1=some r):al prog 40 [ar a0,ar a1] (.vs [aX r]):=by
 refine c7 func40 O ntmps40 (by kernel_rfl) fun w0 H0=>rS<|cX<|cX<|cT V<|ak 28 O ?_
 obtain⟨x1,h2,x3,h4,x5,h6,q⟩:=b3 q;refine gE 8 mixed<|dP [2] O (ae O g)<|dP [3] O (ae O g)<|dP [5,6] O (oC (fg h2) O)<|dP [3] O (ae O g)<|dP [3] O (ae O g)<|dP [8,9] O (oC (fg h4) O)<|dP [7,10] O (oC (Di h6) O)<|dS [4,11] O (ds O O O d)<|dN<|dE [4] O (by kernel_rfl)<|cD ?_
 cases q;exact an (q1 O d)
def ox{a0 a1 r}(q:kr a0 a1=some r):al prog 35 [Ec a0,ar a1] (.vs [aR r]):=by
 refine c7 func35 O ntmps35 (by kernel_rfl) fun w0 H0=>rS<|cX<|cX<|cT xL<|ak 28 O ?_
 obtain⟨x1,h2,q⟩:=ab q;refine rS<|cU O g<|jg 0 O X2 O g<|cC (iB h2) O<|cT bY<|cs O O O g<|ak 52 O ?_
 obtain⟨x3,h4,x5,h6,q⟩:=b2 q;refine gE 10 mixed<|dP [5] O (ae O g)<|dQ 1 O Mk O g<|dP [10,12] O (oC (l9 h4) O)<|dP [5] O (ae O g)<|dQ 2 O Mj O g<|dP [14,16] O (oC (l9 h6) O)<|dP [13,17] O (bA Ed mO O O)<|dS [4,18] O (ds O O O kc)<|dN<|dE [4] O (by kernel_rfl)<|cD ?_
 cases q;exact an (q1 O kc)
def MG{a0 r}(q:tp a0=some r):al prog 252 [aZ a0] (.vs [TiZ r]):=by
 refine c7 func252 O ntmps252 (by kernel_rfl) fun w0 H0=>rS<|cX<|cI<|ak 2 O ?_
 obtain⟨x1,h2,q⟩:=ab q;refine rS<|cU O m<|cC (iH h2) O<|cZ<|cE<|cE<|cA<|cA<|cF [4] O<|ah<|rS<|cM<|cJ dU O<|cP (df (aT O) aI)<|ak 4112 O<|gc O q (fun hb3 q=>?_) fun hb3 q=>?_
 ·refine rS<|cI<|ak 4 O ?_
  cases q;exact an (r1 O)
 ·refine aj (aw ?_);obtain⟨x4,h5,x6,h7,x8,h9,dz,jv,fp,kU,gp,mu,q⟩:=b6 q;refine rS<|cM<|cJ dU O<|cP (bn (aT O) aI h5)<|cP (oz aI (aT O) h7)<|cM<|cM<|cJ dU O<|cP (bn (aT O) aI h9)<|cP (oX W (dI O) O O jv)<|cR O dx<|cC (aeB kU) O<|cP (bR (aT O) (aT O) mu)<|cA<|ak 4 O ?_
  cases q;exact an (r1 O)
def Jg{a0 r}(q:uL a0=some r):al prog 179 [aZ a0] (.vs [TS r]):=by
 refine c7 func179 O ntmps179 (by kernel_rfl) fun w0 H0=>?_
 refine rS<|cX<|cP (aA (Arg.s O))<|ak 2 O ?_
 refine ah<|rS<|jg 1 O nI O yJ<|cP (qo dU (aT O))<|cF [1,14] O ?_
 refine gc O q (fun hb1 q=>?_) fun hb1 q=>?_
 ·obtain⟨x2,h3,q⟩:=ab q;refine rS<|jg 0 O gz O C<|cC (ahp h3) O<|cA<|ak 4 O ?_
  cases q;exact an (r1 O)
 ·refine aj (aw ?_);obtain⟨x4,h5,q⟩:=ab q;refine rS<|cU O m<|cC (iH h5) O<|cZ<|cE<|cE<|cA<|cA<|ak 24 O ?_
  refine rS<|cP (sY (s':= .val (TL (TI .u64) ([(1000000000000000000:Int)]:ard Int))) (bS w9 adh O O) O)<|cA<|ak 56 O ?_
  refine rS<|cP (ba TS 9 1)<|ak 120 O ?_
  refine ah<|ai<|jj [3,5] O (σ:=ard Int×(ard adx)) (fun s6=>[(4,.val (TL (TI .u64) s6.1)),(6,.buf 9 1 (lT TS s6.2))]) q O (fun k7 s6 q=>?_)
  refine ah<|rS<|cM<|cJ dU O<|cP (cq (aT O) aI)<|ak 67108984 O ?_
  refine gc O q (fun Y q=>?_) fun Y q=>?_
  ·refine aj<|aw<|ai ?_
   obtain⟨x9,kG,q⟩:=ab q;refine rS<|cM<|cM<|cC (G7 kG) O<|cZ<|cE<|cE<|cA<|cA<|ak 488 O ?_
   refine rS<|cP (aA (Arg.s O))<|ak 1000 O ?_
   refine ah<|rS<|cM<|cJ dU O<|cP (cq (aT O) aI)<|ak 34359739368 O ?_
   refine uU [3,5,6,7] O (α:=adx) (fun Jp=>[(9,.val (TS Jp))]) q (fun Md q=>?_) (fun Jp q=>?_)
   ·refine gc O q (fun N3 q=>?_) fun N3 q=>?_
    ·obtain⟨gp,mu,gS,Q,q⟩:=b2 q;exact rK<|cM<|cP (kS W (dI O) (aT O) aI mu)<|cR O dx<|cC (ahq Q) O<|cO (oA O)<|ak 744 O (cm q O)
    ·exact aj (cm q O)
   ·refine aw ?_;refine ah<|rS<|cM<|cJ dU O<|cP (cq (aT O) aI)<|cF [3,5,6,7,9,42] O ?_
    refine uU [3,5,6,7] O (α:=adx) (fun UQ=>[(9,.val (TS UQ))]) q (fun XE q=>?_) (fun UQ q=>?_)
    ·refine gc O q (fun Gq q=>?_) fun Gq q=>?_
     ·obtain⟨kQ,wb,kP,wP,nZ,Ba,q⟩:=b3 q;exact rK<|cM<|cP (fy U (aT O))<|cP (bn aI (aT O) wb)<|cP (fL (ahn wP) (aJ.cons (Arg.s O) (aJ.cons (aT O) aJ.nil)))<|cM<|cP (pY (aT O) (aT O) Ba)<|cO (oA O)<|ak 744 O (cm q O)
     ·exact aj (cm q O)
    ·refine aw ?_;obtain⟨oN,CP,q⟩:=ab q;refine rS<|cQ<|cM<|cP (bS af6 adk O O)<|cS (dp XG ajz (dI O) O O (aT O) CP (bU O))<|cS (bt O O (bU O) _ (Or.inl O))<|ak 232 O ?_
     exact rK<|cM<|cA<|ak 120 O (cm q O)
  ·refine aN<|aw<|rS<|cP (Ko (E:=5) WI)<|ak 1096 O ?_
   refine ah<|rS<|cM<|cF [6,10,54] O ?_
   refine uU [6] O (α:=adx) (fun s29=>[(10,.GO 156 5 (lB s29))]) q (fun k30 q=>?_) (fun s29 q=>?_)
   ·refine gc O q (fun ais q=>?_) fun ais q=>?_
    ·obtain⟨qf,JW,q⟩:=ab q;exact rK<|cS (jK (xs:=[]) (ys:=[_]) (Nh JW) dZ.own O O O aJ.nil (aJ.cons (Arg.s O) aJ.nil) (bU O) O)<|ak 1088 O (cm q O)
    ·exact aj (cm q O)
   ·refine aw ?_;refine ah ?_;obtain⟨yX,N6,q⟩:=ab q;refine rS<|cQ<|cP (mU XG O O)<|cP (bn (aT O) aI N6)<|cA<|ak 3136 O ?_
    refine ai<|jj [6] O (σ:=adx×Int) (fun s36=>[(10,.GO 156 5 (lB s36.1)),(11,.val (TiZ s36.2))]) q O (fun k37 s36 q=>?_)
    refine ah<|rS<|cM<|cP (jG (aT O) aI)<|cF [6,10,11,60] O ?_
    refine gc O q (fun acu q=>?_) fun acu q=>?_
    ·refine aj<|aw<|ah<|ai ?_
     obtain⟨sf,Gs,AF,Li,AE,Pr,q⟩:=b3 q;refine rK<|cQ<|cM<|cP (dK ahi O O (aT O) Gs)<|cP (og (f:=TS) (fun _=>O) O O (bF Li) anr)<|cS (jK (xs:=[]) (ys:=[.tmp 66]) (Nh Pr) dZ.own O O O aJ.nil (aJ.cons (aT O) aJ.nil) (bU O) O)<|ak 3136 O (aw ?_)
     obtain⟨PG,ZQ,q⟩:=ab q;exact rK<|cM<|cP (bn (aT O) aI ZQ)<|cO (oA O)<|ak 3136 O (cm q O)
    ·refine aN (aw ?_);obtain⟨Lk,Sy,q⟩:=ab q;refine rS<|cS (jK (s':= .gone) (xs:=[]) (ys:=[]) (PR Sy) dZ.own O O O aJ.nil aJ.nil (bU O) O)<|cA<|ak 4 O ?_
     cases q;exact an (r1 O)
def akf{x:Int}{r:Int}(hm:adw x=some r):al prog 252 [mP x] (.vs [TI .i64 r]):=by
 obtain⟨hb,rfl⟩:=iL hm;exact Z4 (by kernel_rfl) fun r hr=>⟨_,MG (abw hr hb),fun _ _ h=>h⟩
def Lu{x:Int}{r:adx}(hm:vG x=some r):al prog 179 [mP x] (.vs [TS r]):=by
 obtain⟨hb,rfl⟩:=iL hm;exact Z4 (by kernel_rfl) fun r hr=>by
  obtain⟨q,e,rfl⟩:=VD hr hb;exact⟨_,Jg e,fun _ _ h=>h⟩
def ME{a0 r}(q:uK a0=some r):al prog 178 [mP a0] (.vs [aY r]):=by
 refine c7 func178 O ntmps178 (by kernel_rfl) fun w0 H0=>rS<|cX<|cB<|ak 2 O ?_
 obtain⟨x1,h2,q⟩:=ab q;obtain⟨x3,h4,q⟩:=aH q;obtain⟨x5,h6,q⟩:=aH q;refine rS<|cU O m<|cC (akf h2) O<|cP (cq (aT O) aI)<|cM<|gV O O (ov 1 O on) (fun rW=>ae O m)<|gV O O (oo 7 O id on) (fun hg2=>oC (Lu (h4 hg2)) O)<|gV O O (oo 8 O id on) (fun P=>fL (vI (h6 P)) (aJ.cons (aT O) (aJ.cons (Arg.s O) aJ.nil)))<|gV O O (oo 9 O id on) (fun wk=>fy U (aT O))<|gV O O (oo 10 O id on) (fun Az=>cq (aT O) aI)<|cP (dh (aT O) O je)<|cA<|ak 4 O ?_
 cases q;exact an (r1 O)
def iR{a0 r}(q:fQ a0=some r):al prog 99 [aX a0] (.vs [aY r]):=by
 refine c7 func99 O ntmps99 (by kernel_rfl) fun w0 H0=>rS<|cX<|cB<|ak 2 O ?_
 obtain⟨x1,h2,q⟩:=ab q;obtain⟨x3,h4,q⟩:=aH q;refine rS<|jg 0 O nH O m<|cC (ME h2) O<|cM<|gV O O (ov 1 O on) (fun rW=>a8 O mR)<|gV O O (oo 7 O id (ov 1 O on)) (fun hg2=>oP 1 O O m)<|gV O O (oo 8 O id on) (fun P=>oC (ME (h4 P)) O)<|cP (fO (aT O) O jY)<|cA<|ak 4 O ?_
 cases q;exact an (r1 O)
def nz{a0 r}(q:jW a0=some r):al prog 37 [aR a0] (.vs [aY r]):=by
 refine c7 func37 O ntmps37 (by kernel_rfl) fun w0 H0=>rS<|cX<|cB<|ak 2 O ?_
 obtain⟨x1,h2,q⟩:=ab q;obtain⟨x3,h4,q⟩:=aH q;refine rS<|cP (iO O mO O)<|cV 0 O O d<|cC (iR h2) O<|cM<|gV O O (ov 1 O on) (fun rW=>iO O mO O)<|gV O O (oo 7 O id (ov 1 O on)) (fun hg2=>oP 1 O O d)<|gV O O (oo 8 O id on) (fun P=>oC (iR (h4 P)) O)<|cP (fO (aT O) O jY)<|cA<|ak 4 O ?_
 cases q;exact an (r1 O)
def iI{a0 r}(q:fN a0=some r):al prog 100 [aX a0] (.vs [TS r]):=by
 refine c7 func100 O ntmps100 (by kernel_rfl) fun w0 H0=>rS<|cX<|cP (aA (Arg.s O))<|ak 2 O<|ah ?_
 obtain⟨x1,h2,q⟩:=ab q;refine rS<|cU O d<|cC (Nj h2) O<|ak 18 O<|gc O q (fun hb3 q=>?_) fun hb3 q=>?_
 ·obtain⟨x4,h5,q⟩:=ab q;refine rS<|jg 0 O nH O m<|cC (Lu h5) O<|cA<|ak 4 O ?_
  cases q;exact an (r1 O)
 ·refine aj (aw ?_);obtain⟨x6,h7,x8,h9,dz,jv,fp,kU,q⟩:=b4 q;refine gE 9 mixed<|dQ 0 O nH O m<|dP [9] O (oC (Lu h7) O)<|dP [10] O (pY (aT O) (Arg.s O) h9)<|dQ 1 O mR O m<|dP [13] O (oC (Lu jv) O)<|dP [11,14] O (pY (aT O) (aT O) kU)<|dP [15] O (oA O)<|dN<|dE [2] O (by kernel_rfl)<|cD ?_
  cases q;exact an (r1 O)
def kg{a0 r}(q:iw a0=some r):al prog 38 [aR a0] (.vs [eh r]):=by
 refine c7 func38 O ntmps38 (by kernel_rfl) fun w0 H0=>rS<|cX<|cT nY<|ak 6 O ?_
 obtain⟨x1,h2,x3,h4,q⟩:=b2 q;refine gE 8 mixed<|dP [1] O (iO O mO O)<|dP [3,1] O (oP 0 O O d)<|dP [4] O (oC (iI h2) O)<|dP [1] O (iO O mO O)<|dP [6,1] O (oP 1 O O d)<|dP [7] O (oC (iI h4) O)<|dP [5,8] O (bA nY ni O O)<|dS [2,9] O (ds O O O px)<|dN<|dE [2] O (by kernel_rfl)<|cD ?_
 cases q;exact an (q1 O px)
def Hd{a0 a1 r}(q:tr a0 a1=some r):al prog 7 [cz a0,aW a1] (.vs [eh r.1,TiZ r.2]):=by
 refine c7 func7 O ntmps7 (by kernel_rfl) fun w0 H0=>rS<|cX<|cX<|cT nY<|cI<|ak 28 O<|ah ?_
 obtain⟨x1,h2,x3,h4,x5,h6,q⟩:=b3 q;refine gE 7 mixed<|dP [2] O (ae O kv)<|dP [8] O (oC (jU h2) O)<|dP [3] O (ae O B)<|dP [10] O (oC (jS h4) O)<|dP [9,11] O (bS sJ uW O O)<|dP [12] O (oC (iJ h6) O)<|dP [13] O (oA O)<|dN<|dE [2,3,4,6] O (by kernel_rfl)<|cD<|rS<|cM<|cP (da (aT O) aI)<|ak 32860 O<|gc O q (fun A9 q=>?_) fun A9 q=>?_
 ·refine rS<|cP (bA nY ni O O)<|cM<|cs O O O px<|cA<|ak 48 O ?_
  cases q;exact an (fX O O (bu.cell O (sB px) O (bu.tmp O O bu.nil)))
 ·refine aj (aw ?_);obtain⟨x8,h9,dz,jv,fp,kU,q⟩:=b3 q;refine gE 7 mixed<|dP [2] O (ae O kv)<|dP [18] O (oC (o0 h9) O)<|dP [3] O (ae O B)<|dP [20] O (oC (gT jv) O)<|dP [19,21] O (oC (ox kU) O)<|dP [] O (gW xL)<|dS [7,22] O (ds O O O kc)<|dN<|dE [4,7] O (by kernel_rfl)<|cD<|ah ?_
  obtain⟨gp,mu,q⟩:=ab q;refine rS<|cU O kc<|cC (nz mu) O<|cF [4,7,24] O<|gc O q (fun Gr q=>?_) fun Gr q=>?_
  ·refine rS<|cP (bA nY ni O O)<|cs O O O px<|cI<|ak 48 O ?_
   cases q;exact an (fX O O (bu.cell O (sB px) O (bu.tmp O O bu.nil)))
  ·refine aj (aw ?_);obtain⟨iP,T,q⟩:=ab q;refine rS<|cU O kc<|cC (kg T) O<|cs O O O px<|cI<|ak 48 O ?_
   cases q;exact an (fX O O (bu.cell O (sB px) O (bu.tmp O O bu.nil)))
def Dc{a0 r}(q:vZ a0=some r):al prog 39 [aX a0] (.vs [TS r.1,TiZ r.2]):=by
 refine c7 func39 O ntmps39 (by kernel_rfl) fun w0 H0=>rS<|cX<|cP (aA (Arg.s O))<|cI<|ak 2 O<|ah ?_
 obtain⟨x1,h2,q⟩:=ab q;refine rS<|cU O d<|cC (iR h2) O<|ak 34 O<|gc O q (fun hb3 q=>?_) fun hb3 q=>?_
 ·refine rS<|cP (aA (Arg.s O))<|cI<|ak 12 O ?_
  cases q;exact an (r2 O)
 ·refine aj (aw ?_);obtain⟨x4,h5,q⟩:=ab q;refine rS<|cU O d<|cC (iI h5) O<|cA<|cI<|ak 12 O ?_
  cases q;exact an (r2 O)
def He{a0 a1 r}(q:xu a0 a1=some r):al prog 8 [cz a0,aW a1] (.vs [TS r.1,TiZ r.2]):=by
 refine c7 func8 O ntmps8 (by kernel_rfl) fun w0 H0=>rS<|cX<|cX<|cP (aA (Arg.s O))<|cI<|ak 12 O<|ah ?_
 obtain⟨x1,h2,x3,h4,x5,h6,q⟩:=b3 q;refine gE 7 mixed<|dP [2] O (ae O kv)<|dP [8] O (oC (jU h2) O)<|dP [3] O (ae O B)<|dP [10] O (oC (jS h4) O)<|dP [9,11] O (bS sJ uW O O)<|dP [12] O (oC (iJ h6) O)<|dP [13] O (oA O)<|dN<|dE [2,3,6] O (by kernel_rfl)<|cD<|rS<|cM<|cP (da (aT O) aI)<|ak 32844 O<|gc O q (fun A9 q=>?_) fun A9 q=>?_
 ·refine rS<|cM<|cP (aA (Arg.s O))<|cA<|ak 48 O ?_
  cases q;exact an (r2 O)
 ·refine aj (aw ?_);obtain⟨x8,h9,q⟩:=ab q;refine rS<|cU O kv<|cC (o0 h9) O<|cT xK<|cs O O O CG<|ak 136 O ?_
  obtain⟨dz,jv,fp,kU,gp,mu,gS,Q,q⟩:=b4 q;refine gE 13 mixed<|dP [3] O (ae O B)<|dP [19] O (oC (gT jv) O)<|dQ 0 O X2 O g<|dP [20,22] O (oC (iB kU) O)<|dQ 3 O zI O g<|dP [23,25] O (oC (l9 mu) O)<|dP [26] O (oC (Dc Q) O)<|dP [27] O (dW O O)<|dP [27] O (dW O O)<|dP [28] O (oA O)<|dP [29] O (oA O)<|dN<|dE [4,5] O (by kernel_rfl)<|cD ?_
  cases q;exact an (r2 O)
def CH{a0 a1 r}(q:uh a0 a1=some r):al prog 168 [(TL (TL (TL bz))) a0,(Fj prog (fun(x:(ard (ard ((Int×Int×Int)×adx))))=>[(TL (TL bz)) x]) (fun(x:Int)=>[TiZ x])) a1] (.vs [TiZ r]):=by
 refine c7 func168 O ntmps168 (by kernel_rfl) fun w0 H0=>rS<|cI<|ak 3 O<|ah<|rS<|cM<|cJ VU O<|cN<|ak 1794 O<|ai<|jj [1,8,9] O (σ:=Int) (fun s1=>[(10,.val (TiZ s1))]) q O (fun k2 s1 q=>?_)
 refine rS<|cL O O<|ak 3842 O<|ah<|gc O q (fun hb3 q=>?_) fun hb3 q=>?_
 ·refine aj<|aw<|ah<|ai ?_
  obtain⟨x4,h5,q⟩:=ab q;refine rS<|cP (oX age (dI O) O O h5)<|cR O agu<|cA<|ak 1858 O ?_
  obtain⟨x6,h7,q⟩:=ab q;refine rS<|cM<|cM<|cP (qQ O h7 (aJ.cons (aT O) aJ.nil))<|cA<|ak 1922 O<|rS<|cM<|cP (da (aT O) aI)<|ak 264066 O<|gc O q (fun Y q=>?_) fun Y q=>?_
  ·refine rS<|cM<|cA<|cF [4] O ?_
   cases q;exact an (r1 O)
  ·refine aj (aw ?_);obtain⟨x9,kG,q⟩:=ab q;exact rK<|cH O kG<|cO (oM O)<|ak 1794 O (cm q O)
 ·refine aN<|aw<|rS<|cI<|cF [4] O ?_
  cases q;exact an (r1 O)
def xe{a0 a1 r}(q:tg a0 a1=some r):al prog 174 [aY a0,TiZ a1] (.vs [TiZ r]):=by
 refine c7 func174 O ntmps174 (by kernel_rfl) fun w0 H0=>rS<|cI<|ak 3 O<|ah<|rS<|cM<|ak 34 O<|gc O q (fun hb1 q=>?_) fun hb1 q=>?_
 ·refine rS<|cM<|cA<|cF [4] O ?_
  cases q;exact an (r1 O)
 ·refine aj<|aw<|rS<|cI<|cF [4] O ?_
  cases q;exact an (r1 O)
def OU{a0 r}(q:FJ a0=some r):al prog 346 [(TL TiZ) a0] (.vs [TiZ r]):=by
 refine c7 func346 O ntmps346 (by kernel_rfl) fun w0 H0=>rS<|cI<|ak 1 O<|ah<|rS<|cM<|cJ XF O<|cN<|ak 224 O<|ai<|jj [5,6] O (σ:=Int) (fun s1=>[(7,.val (TiZ s1))]) q O (fun k2 s1 q=>?_)
 refine rS<|cL O O<|ak 480 O<|ah<|gc O q (fun hb3 q=>?_) fun hb3 q=>?_
 ·refine aj<|aw<|ah<|ai ?_
  obtain⟨x4,h5,q⟩:=ab q;refine rS<|cP (oX aaW (dI O) O O h5)<|cR O Kv<|cA<|ak 240 O<|rS<|cM<|cP (da (aT O) aI)<|ak 4336 O<|gc O q (fun Pp q=>?_) fun Pp q=>?_
  ·refine rS<|cM<|cA<|ak 4 O ?_
   cases q;exact an (r1 O)
  ·refine aj (aw ?_);obtain⟨x7,h8,q⟩:=ab q;exact rK<|cH O h8<|cO (oM O)<|ak 224 O (cm q O)
 ·refine aN<|aw<|rS<|cI<|ak 4 O ?_
  cases q;exact an (r1 O)
def akh{x:Int}{r:Int}(hm:ajA x=some r):al prog 230 [mP x] (.vs [mP r]):=by
 have hm:=fj hm;subst hm;exact Z4 (by kernel_rfl) fun r hr=>by obtain⟨q,e,hq⟩:=Rx hr;exact⟨_,zX e,Tu hq⟩
def GY{a0 r}(q:zm a0=some r):al prog 281 [bz a0] (.vs [TiZ r]):=by
 refine c7 func281 O ntmps281 (by kernel_rfl) fun w0 H0=>rS<|cX<|cI<|ak 2 O ?_
 obtain⟨x1,h2,q⟩:=ab q;refine rS<|cC (sOf h2) O<|cT gv<|cs O O O m<|ak 10 O<|rS<|cB<|ak 26 O<|ah<|rS<|jg 0 O pD O JL<|cN<|ak 6170 O<|ai<|jj [1,11] O (σ:=Int×Bool×Int) (fun s3=>[(3,.own 85 (mP s3.1)),(4,.val (aY s3.2.1)),(12,.val (TiZ s3.2.2))]) q O (fun k4 s3 q=>?_)
 refine rS<|cP (eC (aT O) aI)<|ak 14362 O<|ah<|gc O q (fun CN q=>?_) fun CN q=>?_
 ·refine aj<|aw<|ah<|ai ?_
  obtain⟨x6,h7,q⟩:=ab q;refine rS<|cP (BC (f:=TiZ) (l:=([a0.1.1,a0.1.2.1,a0.1.2.2]:ard Int)) afR C (fun _=>O) O (aT O) (aT O) h7)<|cA<|ak 6234 O ?_
  obtain⟨x8,h9,dz,jv,fp,kU,q⟩:=b3 q;refine gE 6 mixed<|dP [3] O (ae O m)<|dP [6] O (oM O)<|dP [16] O (oC (sOf h9) O)<|dP [17] O (oC (akh jv) O)<|dP [15,18] O (oC (aeC kU) O)<|dS [3,19] O (ds O O O m)<|dN<|dE [1,3,4,6,11,12] O (by kernel_rfl)<|cD<|rK<|cM<|cM<|gV O O (ov 6 O on) (fun rW=>oM O)<|gV O O (oo 22 O id on) (fun hg2=>cq (aT O) aI)<|cP (fO (aT O) O jY)<|cM<|gV O O (ov 6 O on) (fun P=>oM O)<|gV O O (oo 26 O id on) (fun wk=>eC (aT O) aI)<|cP (fO (aT O) O jY)<|cO (oA O)<|ak 6170 O (aw ?_)
  obtain⟨gp,mu,q⟩:=ab q;exact rK<|cH O mu<|cO (oM O)<|ak 6170 O (cm q O)
 ·refine aN (aw ?_);obtain⟨gS,Q,q⟩:=ab q;refine rS<|cU O m<|cC (Vp Q) O<|cZ<|cE<|cE<|cA<|cA<|ak 410 O ?_
  obtain⟨iZ,qi,kR,h21,my,Cf,sE,Gv,yY,JX,oY,Fi,q⟩:=b6 q;refine gE 19 mixed<|dP [3] O (ae O m)<|dP [35] O (oC (agk qi) O)<|dP [36] O (df (aT O) aI)<|dP [37] O (oC (xe h21) O)<|dP [4] O (oM O)<|dP [39] O (oC (xe Cf) O)<|dP [8] O (oM O)<|dP [41] O (jF (aT O))<|dP [42] O (oM O)<|dV [7,43] O O O (ov 7 O on) (fun Az=>oM O)<|dV [43,44] O O O (oo 44 O id on) (fun CL=>da (aT O) aI)<|dP [43,45] O (fO (aT O) O jY)<|dP [46] O (oC (xe Gv) O)<|dQ 1 O Ob O X<|dP [49] O (oC (qK JX) O)<|dP [38,40,47,50] O (bS sJ uW O O)<|dP [51] O (oC (OU Fi) O)<|dP [52] O (oA O)<|dN<|dE [2] O (by kernel_rfl)<|cD ?_
  cases q;exact an (r1 O)
end
end Trn
