/-
  Part of the proof of DrawViews.
-/
import Derived.Test.YtgmphoejohhmgaaGreatDoorWj
set_option maxRecDepth 100000
set_option maxHeartbeats 20000000
set_option linter.all false
open Go Go.RowKit Go.Proofs Go.Proofs.Tryz
namespace Trn
section
variable[D:DR]
def sM{a0 a1 r}(q:ko a0 a1=some r):al prog 261 [(TL TiZ) a0,(TL TiZ) a1] (.vs [(TL TiZ) r.1,(TL TiZ) r.2]):=by
 refine c7 func261 O ntmps261 (by kernel_rfl) fun w0 H0=>rS<|cP (aA (Arg.nn (f:=TiZ)))<|cP (aA (Arg.nn (f:=TiZ)))<|ak 3 O<|ah ?_
 obtain⟨x1,h2,q⟩:=ab q;refine rS<|cM<|cM<|cC (ue h2) O<|cP (eC (aT O) aI)<|cF [0,1,27] O<|gc O q (fun hb3 q=>?_) fun hb3 q=>?_
 ·refine rS<|cM<|cP (aA (Arg.nn (f:=TiZ)))<|cA<|ak 48 O ?_
  cases q;exact an (fi (US (t:=4) O) (fX O O (bu.tmp O O (bu.tmp O O bu.nil))))
 ·refine aj<|aw<|ah<|rS<|cM<|cJ dF O<|cP (df (aT O) aI)<|cF [0,1,31] O<|gc O q (fun Lf q=>?_) fun Lf q=>?_
  ·obtain⟨x5,h6,x7,h8,q⟩:=b2 q;refine rS<|cM<|cM<|cP (kS eT (dI O) (aT O) aI h6)<|cR O C<|cC (AI h8) O<|cZ<|cE<|cE<|cA<|cA<|ak 192 O ?_
   obtain⟨x9,kG,q⟩:=ab q;refine rS<|cM<|cM<|cP (bS oW rZ O O)<|cC (ny kG) O<|cA<|cA<|ak 48 O ?_
   cases q;exact an (r2 O)
  ·refine aj (aw ?_);obtain⟨iM,qC,iW,nJ,kd,S,iP,T,q⟩:=b4 q;refine rS<|cM<|cM<|cJ dF O<|cP (bn (aT O) aI qC)<|cP (oX eT (dI O) O O nJ)<|cR O C<|cH O S<|cP (rq aI (aT O) T)<|cP (sY (s':= .val (TL TiZ ([iP]:ard Int))) (bS oW rZ O O) O)<|cA<|ak 259 O ?_
   obtain⟨ju,Z,q⟩:=ab q;refine rS<|cM<|cM<|cC (sL Z) O<|cA<|ak 769 O<|rS<|cM<|cJ dF O<|cA<|ak 1793 O ?_
   obtain⟨kQ,wb,kP,wP,q⟩:=b2 q;refine rS<|cP (IW TiZ rZ)<|cM<|cM<|cC (sL wb) O<|cS (xk dF GH (dI O) O (aT O) wP (bU O))<|cS (bt O O (bU O) _ (Or.inl O))<|ak 3841 O<|ah<|ai<|jj [0,8,9,10] O (σ:=(ard Int)) (fun qn=>[(11,.buf 3 1 (lT TiZ qn))]) q O (fun NO qn q=>?_)
   refine ah ?_;obtain⟨oN,CP,q⟩:=ab q;refine rS<|cQ<|cP (mU dF O O)<|cM<|cJ dF O<|cH O CP<|cL O O<|cF [0,8,9,10,11,68] O<|gc O q (fun R1 q=>?_) fun R1 q=>?_
   ·refine aj<|aw<|ai ?_
    obtain⟨qE,CO,q⟩:=ab q;exact rK<|cQ<|cP (bS oW rZ O O)<|cS (dp dF GH (dI O) O O (aT O) CO (bU O))<|cS (bt O O (bU O) _ (Or.inl O))<|ak 3841 O (cm q O)
   ·refine aN (aw ?_);obtain⟨qf,JW,yX,N6,q⟩:=b2 q;refine rS<|cQ<|cP (mU dF O O)<|cM<|cP (bn (aT O) (aT O) JW)<|cP (FH TiZ abB oW O (aT O) (aT O) N6)<|cS (bt O O (bU O) _ (Or.inl O))<|ak 7936 O<|ah ?_
    obtain⟨uj,R5,Fm,Um,q⟩:=b2 q;refine rS<|cQ<|cP (mU dF O O)<|cM<|cP (bn (aT O) (aT O) R5)<|cP (bn (aT O) aI Um)<|cA<|ak 16128 O<|ai<|jj [8,9,10] O (σ:=ard Int×ard Int×Int) (fun y9=>[(11,.buf 3 1 (lT TiZ y9.1)),(12,.buf 3 1 (lT TiZ y9.2.1)),(13,.val (TiZ y9.2.2))]) q O (fun k41 y9 q=>?_)
    refine ah<|rS<|cM<|cP (jG (aT O) aI)<|cF [8,9,10,11,12,13,83] O<|gc O q (fun aip q=>?_) fun aip q=>?_
    ·refine aj<|aw<|ah<|ai ?_
     obtain⟨AE,Pr,q⟩:=ab q;refine rS<|cQ<|cM<|cM<|cP (Zh (OY Pr) (zQ.same O O (zQ.cons (aT O) (zQ.cons (aT O) zQ.nil))) (flc Flat.int fln))<|cA<|ak 32512 O<|rS<|cI<|ak 65280 O<|ah<|rS<|cI<|ak 130816 O<|ai<|jj [8,9,10,12,13,14] O (σ:=ard Int×Int×Int) (fun qG=>[(11,.buf 3 1 (lT TiZ qG.1)),(15,.val (TiZ qG.2.1)),(16,.val (TiZ qG.2.2))]) q O (fun Zw qG q=>?_)
     refine ah<|rS<|cM<|cM<|cL O O<|cF [8,9,10,11,12,13,14,15,16,92] O<|gc O q (fun aoQ q=>?_) fun aoQ q=>?_
     ·refine aj<|aw<|ah<|ai ?_
      obtain⟨Eh,h49,SD,h51,OJ,h53,q⟩:=b3 q;refine rS<|cM<|cM<|cM<|cP (oX eT (dI O) O O h49)<|cR O C<|cP (oz (aT O) (aT O) h51)<|cM<|cP (bR (aT O) (aT O) h53)<|cA<|ak 229120 O ?_
      obtain⟨SC,h55,SB,h57,SA,h59,Sz,h61,CX,Lh,q⟩:=b5 q;refine rS<|cQ<|cM<|cM<|cP (bR (aT O) (aT O) h55)<|cP (dK eT O O (aT O) h57)<|cP (og (f:=TiZ) (fun _=>O) O O (bF h59) C)<|cM<|cP (mQ (aT O) aI h61)<|cP (bn (aT O) (aT O) Lh)<|cA<|ak 491264 O ?_
      obtain⟨QC,h65,q⟩:=ab q;refine rS<|cM<|cP (rq (aT O) aI h65)<|cA<|ak 392960 O<|ah<|rS<|cM<|cP (eC (aT O) aI)<|cF [8,9,10,11,12,13,14,15,16,18,115] O<|uU [8,9,10,11,12,13,14,16] O (α:=Int×Int) (fun s66=>[(15,.val (TiZ s66.1)),(18,.val (TiZ s66.2))]) q (fun k67 q=>?_) (fun s66 q=>?_)
      ·refine gc O q (fun aoG q=>?_) fun aoG q=>?_
       ·obtain⟨Yw,h70,q⟩:=ab q;refine rS<|cM<|cH O h70<|cO (oA O)<|ak 392960 O ?_
        obtain⟨Yv,h72,q⟩:=ab q;exact rK<|cM<|cH O h72<|cO (oA O)<|ak 392960 O (cm q O)
       ·exact aj (cm q O)
      ·refine aw ?_;obtain⟨KG,h74,x75,h76,x77,h78,q⟩:=b3 q;refine rK<|cQ<|cM<|cM<|cP (bR (aT O) (aT O) h74)<|cM<|cP (dK eT O O (aT O) h76)<|cS (o8 (f:=TiZ) (fun _=>O) O O (bF h78) (aT O) C)<|ak 130816 O (aw ?_)
       obtain⟨PD,h80,q⟩:=ab q;exact rK<|cM<|cH O h80<|cO (oA O)<|ak 130816 O (cm q O)
     ·refine aN (aw ?_);obtain⟨yS,h82,x83,h84,x85,h86,x87,h88,Ja,h90,WL,h92,q⟩:=b6 q;obtain⟨WK,h94,q⟩:=ab q;refine rS<|cQ<|cM<|cM<|cP (bR (aT O) (aT O) h82)<|cQ<|cM<|cM<|cP (bR (aT O) (aT O) h84)<|cP (dK eT O O (aT O) h86)<|cP (og (f:=TiZ) (fun _=>O) O O (bF h88) C)<|cM<|cP (bn (aT O) (aT O) h90)<|cP (dK eT O O (aT O) h92)<|cS (o8 (f:=TiZ) (fun _=>O) O O (bF h94) (aT O) C)<|ak 32512 O<|ah ?_
      obtain⟨UO,h96,x97,h98,U6,We,q⟩:=b3 q;refine rS<|cQ<|cM<|cM<|cP (bR (aT O) (aT O) h96)<|cP (dK eT O O (aT O) h98)<|cP (og (f:=TiZ) (fun _=>O) O O (bF We) C)<|cP (eC (aT O) aI)<|cF [8,9,10,11,12,13,14,145] O<|uU [8,9,10,12,13] O (α:=ard Int×Int) (fun Tg=>[(11,.buf 3 1 (lT TiZ Tg.1)),(14,.val (TiZ Tg.2))]) q (fun VS q=>?_) (fun Tg q=>?_)
      ·refine gc O q (fun aly q=>?_) fun aly q=>?_
       ·obtain⟨SH,aiT,q⟩:=ab q;refine rS<|cM<|cP (bn (aT O) aI aiT)<|cO (oA O)<|ak 32512 O<|rS<|cI<|ak 556800 O<|ah<|rS<|cI<|ak 1605376 O<|ai<|jj [8,9,10,12,13,14] O (σ:=ard Int×Int×Int) (fun j8=>[(11,.buf 3 1 (lT TiZ j8.1)),(19,.val (TiZ j8.2.1)),(20,.val (TiZ j8.2.2))]) q O (fun Zy j8 q=>?_)
        refine ah<|rS<|cM<|cM<|cL O O<|cF [8,9,10,11,12,13,14,19,20,150] O<|gc O q (fun alx q=>?_) fun alx q=>?_
        ·refine aj<|aw<|ah<|ai ?_
         obtain⟨Mu,aiQ,YC,aiP,SG,aiO,QD,aiN,SF,aiM,Mt,aiL,q⟩:=b6 q;refine gE 14 mixed<|dP [11] O (eI)<|dP [20] O (oM O)<|dP [13] O (oM O)<|dP [154,155] O (bR (aT O) (aT O) aiQ)<|dP [153,156,11] O (dK eT O O (aT O) aiP)<|dP [157,11] O (og (f:=TiZ) (fun _=>O) O O (bF aiO) C)<|dP [9] O (oM O)<|dP [20] O (oM O)<|dP [159,160] O (oX eT (dI O) O O aiN)<|dP [161] O (aU (aT O) C)<|dP [158,162] O (bR (aT O) (aT O) aiM)<|dP [19] O (oM O)<|dP [163,164] O (bR (aT O) (aT O) aiL)<|dP [165] O (oA O)<|dN<|dE [8,9,10,11,12,13,14,20,21] O (by kernel_rfl)<|cD ?_
         obtain⟨KI,apB,YB,apA,ag2,apz,ag1,apy,q⟩:=b4 q;refine rS<|cQ<|cM<|cM<|cP (bR (aT O) (aT O) apB)<|cM<|cP (mQ (aT O) aI apA)<|cP (dK eT O O (aT O) apz)<|cS (o8 (f:=TiZ) (fun _=>O) O O (bF apy) (aT O) C)<|ak 3178240 O ?_
         obtain⟨YA,apx,q⟩:=ab q;refine rK<|cM<|cP (rq (aT O) aI apx)<|cA<|ak 1605376 O (aw ?_)
         obtain⟨Yz,apw,q⟩:=ab q;exact rK<|cM<|cH O apw<|cO (oA O)<|ak 1605376 O (cm q O)
        ·refine aN (aw ?_);obtain⟨SE,apv,Yy,apu,akb,apt,ad8,aps,ad7,apr,aka,apq,q⟩:=b6 q;obtain⟨aj9,apo,q⟩:=ab q;exact rK<|cQ<|cM<|cM<|cP (bR (aT O) (aT O) apv)<|cQ<|cM<|cM<|cP (bR (aT O) (aT O) apu)<|cP (dK eT O O (aT O) apt)<|cP (og (f:=TiZ) (fun _=>O) O O (bF aps) C)<|cM<|cP (bR (aT O) (aT O) apr)<|cP (dK eT O O (aT O) apq)<|cS (o8 (f:=TiZ) (fun _=>O) O O (bF apo) (aT O) C)<|ak 32512 O (cm q O)
       ·exact aj (cm q O)
      ·refine aw ?_;obtain⟨am6,apn,am5,apm,q⟩:=b2 q;refine rK<|cQ<|cM<|cM<|cP (dK eT O O (aT O) apn)<|cS (o8 (f:=TiZ) (fun _=>O) O O (bF apm) (aT O) C)<|ak 16128 O (aw ?_)
       obtain⟨aj8,apl,q⟩:=ab q;exact rK<|cM<|cP (bn (aT O) aI apl)<|cO (oA O)<|ak 16128 O (cm q O)
    ·refine aN<|aw<|ah<|Ci (ij (t:=11) O)<|lP (sS [8,9,10,11,12,13,83] O) ?_
     obtain⟨aj7,apk,aj6,apj,aj5,api,aj4,aph,q⟩:=b4 q;refine gD 13 mixed<|dP [11] O (oM O)<|dP [10] O (oM O)<|dP [193,194] O (sv eT (dI O) (aT O) Lo.none (Lo.some (aT O)) apk)<|dP [195] O (oC (ny apj) O)<|dP [8] O (oM O)<|dP [197] O (kS eT (dI O) (aT O) aI api)<|dP [198] O (aU (aT O) C)<|dP [196,199] O (oC (AI aph) O)<|dP [200] O (vP O)<|dP [192] O (dW O O)<|dP [192] O (dW O O)<|dP [201] O (oA O)<|dP [202] O (oA O)<|dN<|dE [12,22] O (by kernel_rfl)<|cD (aw ?_)
     obtain⟨aj3,apg,q⟩:=ab q;refine rS<|cQ<|cG (ij (t:=12) O)<|cG (jL (s:=203) O O)<|cC (ny apg) O<|cM<|cA<|cA<|ak 48 O ?_
     cases q;exact an (r2 O)
def C4{a0 a1 r}(q:pd a0 a1=some r):al prog 188 [(TL TiZ) a0,(TL TiZ) a1] (.vs [(TL TiZ) r]):=by
 refine c7 func188 O ntmps188 (by kernel_rfl) fun w0 H0=>rS<|cP (aA (Arg.nn (f:=TiZ)))<|ak 3 O<|ah<|ai<|gl (σ:=ard Int×ard Int) (fun s1=>[(0,.val (TL TiZ s1.1)),(1,.val (TL TiZ s1.2))]) q O (fun k2 s1 q=>?_)
 refine ah<|rS<|cM<|cJ dF O<|cP (cq (aT O) aI)<|ak 515 O<|gc O q (fun hb3 q=>?_) fun hb3 q=>?_
 ·refine aj<|aw<|ai ?_
  obtain⟨x4,h5,q⟩:=ab q;exact rS<|cM<|cM<|cC (sM h5) O<|cZ<|cE<|cE<|cA<|cA<|ak 66 O<|rK<|cM<|cM<|cA<|cO (oA O)<|ak 3 O (cm q O)
 ·refine aN<|aw<|rS<|cM<|cA<|cF [4] O ?_
  cases q;exact an (r1 O)
def O0{a0 r}(q:j5 a0=some r):al prog 103 [TS a0] (.vs [TiZ r]):=by
 refine c7 func103 O ntmps103 (by kernel_rfl) fun w0 H0=>rS<|cI<|ak 1 O<|rS<|cM<|cA<|ak 9 O<|ah ?_
 obtain⟨x1,h2,q⟩:=aH q;refine rS<|cM<|cP (fy U (aT O))<|cP (cq (aT O) aI)<|cM<|gV O O (ov 3 O on) (fun rW=>oM O)<|gV O O (oo 13 O id on) (fun hg2=>pX U (aT O) aI (h2 hg2))<|gV O O (oo 14 O id on) (fun P=>df (aT O) aI)<|cP (dh (aT O) O je)<|ak 65545 O<|DV (α:=adx) (fun s3=>[(0,.val (TS a0)),(3,.val (TS s3))]) q (fun k4 q=>?_) (fun s3 q=>?_)
 ·refine gc O q (fun CN q=>?_) fun CN q=>?_
  ·obtain⟨x6,h7,q⟩:=ab q;exact rK<|cM<|cP (fY U (aT O) (Lo.some aI) Lo.none h7)<|cO (oA O)<|ak 9 O (cm q O)
  ·exact aj (cm q O)
 ·refine aw ?_;obtain⟨x8,h9,q⟩:=ab q;refine rS<|cM<|cC (zT h9) O<|cA<|ak 25 O<|ah ?_
  obtain⟨dz,jv,fp,kU,q⟩:=b2 q;obtain⟨gp,mu,q⟩:=aH q;obtain⟨gS,Q,q⟩:=aH q;refine rS<|cM<|cM<|cP (fY U (aT O) Lo.none (Lo.some (aT O)) jv)<|cC (wV kU) O<|cP (jF (aT O))<|cM<|gV O O (ov 0 O on) (fun wk=>oM O)<|gV O O (oo 27 O id on) (fun Az=>pX IF (aT O) aI (mu Az))<|gV O O (oo 28 O id on) (fun CL=>df (aT O) aI)<|gV O O (oo 29 O id on) (fun JQ=>oM O)<|gO O O (ov 3 O on) (fun OQ=>oM O)<|gO O O (ov 4 O on) (fun Pn=>oM O)<|gO O O (oo 31 O id (oo 32 O id on)) (fun Ff=>fY U (aT O) Lo.none (Lo.some (aT O)) (Q Ff))<|gO O O (oo 33 O id on) (fun Le=>uA (aT O) (Arg.s O))<|gV O O (oo 30 O id (ov 34 O on)) (fun Fe=>dh (aT O) O (fun h=>D9 (id Fe) (je h)))<|cP (fO (aT O) O jY)<|cF [3,4,36] O ?_
  refine gc O q (fun ZP q=>?_) fun ZP q=>?_
  ·refine rS<|cI<|ak 4 O ?_
   cases q;exact an (r1 O)
  ·refine aj<|aw<|ah ?_
   obtain⟨ju,Z,q⟩:=aH q;obtain⟨kQ,wb,q⟩:=aH q;obtain⟨kP,wP,q⟩:=aH q;obtain⟨nZ,Ba,q⟩:=aH q;obtain⟨oN,CP,q⟩:=aH q;obtain⟨Ax,IM,q⟩:=aH q;obtain⟨vH,Fh,q⟩:=aH q;refine rS<|cM<|cM<|cP (fy U (aT O))<|cL O O<|cM<|gV O O (ov 3 O on) (fun Ld=>oM O)<|gV O O (ov 4 O on) (fun NZ=>oM O)<|gV O O (oo 43 O id on) (fun Po=>bR (aT O) aI (Z Po))<|gV O O (oo 42 O id (oo 44 O id on)) (fun RZ=>fY U (aT O) (Lo.some (aT O)) Lo.none (wb RZ))<|gV O O (oo 45 O id on) (fun V9=>oC (wV (wP V9)) O)<|gV O O (oo 46 O id on) (fun ZL=>jF (aT O))<|gV O O (oo 47 O id on) (fun acn=>oM O)<|gO O O (ov 3 O on) (fun aih=>oM O)<|gO O O (ov 4 O on) (fun aif=>oM O)<|gO O O (oo 50 O id on) (fun afy=>bR (aT O) aI (Ba afy))<|gO O O (oo 49 O id (oo 51 O id on)) (fun acm=>fY U (aT O) (Lo.some (aT O)) Lo.none (CP acm))<|gO O O (oo 52 O id on) (fun aie=>uA (aT O) (Arg.s O))<|gV O O (oo 48 O id (ov 53 O on)) (fun ack=>fO (aT O) O (fun h=>D9 (id ack) (jY h)))<|gV O O (oo 54 O id on) (fun aon=>oM O)<|gO O O (ov 3 O on) (fun aom=>oM O)<|gO O O (ov 4 O on) (fun aol=>oM O)<|gO O O (oo 57 O id on) (fun alf=>bR (aT O) aI (IM alf))<|gO O O (oo 56 O id (oo 58 O id on)) (fun ale=>fY U (aT O) (Lo.some (aT O)) Lo.none (Fh ale))<|gO O O (oo 59 O id on) (fun ald=>uA (aT O) (Arg.s O))<|gV O O (oo 55 O id (ov 60 O on)) (fun alc=>fO (aT O) O (fun h=>D9 (id alc) (jY h)))<|cP (dh (aT O) O je)<|cF [3,4,62] O ?_
   refine gc O q (fun aoT q=>?_) fun aoT q=>?_
   ·refine rS<|cI<|ak 4 O ?_
    cases q;exact an (r1 O)
   ·refine aj<|aw<|ah ?_
    obtain⟨yX,N6,q⟩:=aH q;obtain⟨uj,R5,q⟩:=aH q;refine rS<|cM<|cP (cq (aT O) aI)<|cM<|gV O O (ov 3 O on) (fun aok=>oM O)<|gV O O (oo 66 O id on) (fun aoj=>fy U (aT O))<|gV O O (ov 4 O on) (fun aoi=>oM O)<|gV O O (oo 67 O id (oo 68 O id on)) (fun alb=>bn (aT O) (aT O) (N6 alb))<|gV O O (oo 69 O id on) (fun aid=>bn (aT O) aI (R5 aid))<|gV O O (oo 70 O id on) (fun aoh=>cq (aT O) aI)<|cP (fO (aT O) O jY)<|cF [3,4,72] O<|gc O q (fun acu q=>?_) fun acu q=>?_
    ·refine rS<|cI<|ak 4 O ?_
     cases q;exact an (r1 O)
    ·refine aj<|aw<|ah<|rS<|cM<|cM<|cP (fy U (aT O))<|cL O O<|cF [3,76] O<|DV (α:=Unit) (fun s39=>[]) q (fun k40 q=>?_) (fun s39 q=>?_)
     ·refine gc O q (fun aoS q=>?_) fun aoS q=>?_
      ·obtain⟨x42,h43,q⟩:=ab q;refine rS<|cM<|cC (nR h43) O<|cZ<|cE<|cE<|cT j3<|cT j3<|cs O O O eF<|cs O O O eF<|ak 96 O ?_
       obtain⟨Sn,Pq,q⟩:=ab q;refine rS<|jg 1 O iq O lY<|jg 1 O iq O lY<|cC (C4 Pq) O<|cA<|cF [7] O ?_
       obtain⟨PF,XV,q⟩:=aH q;refine rS<|cM<|cJ dF O<|cP (da (aT O) aI)<|cM<|gV O O (ov 7 O on) (fun ala=>oM O)<|gV O O (oo 91 O id on) (fun aic=>kS eT (dI O) (aT O) aI (XV aic))<|gV O O (oo 92 O id on) (fun ak9=>aU (aT O) C)<|gV O O (oo 93 O id on) (fun aog=>da (aT O) aI)<|cP (fO (aT O) O jY)<|cF [95] O<|gc O q (fun aoP q=>?_) fun aoP q=>?_
       ·refine rS<|cI<|ak 4 O ?_
        cases q;exact an (r1 O)
       ·exact aj (cm q O)
      ·exact aj (cm q O)
     ·refine aw ?_;refine rS<|cI<|ak 4 O ?_
      cases q;exact an (r1 O)
def Jf{a0 r}(q:uI a0=some r):al prog 45 [(TL TS) a0] (.vs [TiZ r]):=by
 refine c7 func45 O ntmps45 (by kernel_rfl) fun w0 H0=>rS<|cI<|ak 1 O<|ah<|rS<|cI<|ak 9 O<|ai<|gl (σ:=Int) (fun s1=>[(0,.val (TL TS a0)),(3,.val (TiZ s1))]) q O (fun k2 s1 q=>?_)
 refine ah<|rS<|cM<|cM<|cJ JM O<|cL O O<|ak 265 O<|gc O q (fun hb3 q=>?_) fun hb3 q=>?_
 ·refine aj<|aw<|ah<|ai ?_
  obtain⟨x4,h5,x6,h7,q⟩:=b2 q;refine rS<|cM<|cM<|cP (oX PQ (dI O) O O h5)<|cR O X<|cC (O0 h7) O<|cA<|ak 25 O<|rS<|cM<|cP (da (aT O) aI)<|ak 131097 O<|gc O q (fun Y q=>?_) fun Y q=>?_
  ·refine rS<|cM<|cA<|ak 4 O ?_
   cases q;exact an (r1 O)
  ·refine aj (aw ?_);obtain⟨x9,kG,q⟩:=ab q;exact rK<|cM<|cH O kG<|cO (oA O)<|ak 9 O (cm q O)
 ·refine aN<|aw<|rS<|cI<|ak 4 O ?_
  cases q;exact an (r1 O)
def AK{a0 r}(q:iS a0=some r):al prog 11 [aW a0] (.vs [TiZ r]):=by
 refine c7 func11 O ntmps11 (by kernel_rfl) fun w0 H0=>rS<|cX<|cI<|ak 2 O ?_
 obtain⟨x1,h2,q⟩:=ab q;refine rS<|cP (iO O jC O)<|cV 0 O O X<|cP (iO O jC O)<|cV 1 O O X<|cP (iO O jC O)<|cV 2 O O X<|cP (bS QA adi O O)<|cC (Jf h2) O<|cA<|ak 4 O ?_
 cases q;exact an (r1 O)
def AJ{a0 r}(q:p7 a0=some r):al prog 42 [aW a0] (.vs [aY r]):=by
 refine c7 func42 O ntmps42 (by kernel_rfl) fun w0 H0=>rS<|cX<|cB<|ak 2 O ?_
 obtain⟨x1,h2,q⟩:=ab q;refine gE 4 mixed<|dP [1] O (ae O B)<|dP [] O (oC (sN h2) O)<|dP [3,4] O (Rn al8 (aT O) (aT O))<|dP [5] O (oA O)<|dN<|dE [2] O (by kernel_rfl)<|cD ?_
 cases q;exact an (r1 O)
def vb{a0 r}(q:mB a0=some r):al prog 180 [TS a0] (.vs [TiZ r.1,TiZ r.2.1,aY r.2.2]):=by
 refine c7 func180 O ntmps180 (by kernel_rfl) fun w0 H0=>rS<|cI<|cI<|cB<|ak 1 O<|rS<|cM<|cA<|cF [5] O<|ah<|rS<|cM<|cP (fy U (aT O))<|cP (cq (aT O) aI)<|ak 8224 O<|gc O q (fun hb1 q=>?_) fun hb1 q=>?_
 ·refine rS<|cI<|cI<|cB<|ak 28 O ?_
  cases q;exact an (fX O O (bu.tmp O O (bu.tmp O O (bu.tmp O O bu.nil))))
 ·refine aj (aw ?_);obtain⟨x2,h3,q⟩:=aH q;refine rS<|cM<|cP (fy U (aT O))<|cP (cq (aT O) aI)<|cM<|gV O O (ov 5 O on) (fun rW=>oM O)<|gV O O (oo 18 O id on) (fun hg2=>pX U (aT O) aI (h3 hg2))<|gV O O (oo 19 O id on) (fun P=>df (aT O) aI)<|cP (dh (aT O) O je)<|cA<|ak 96 O<|ah<|rS<|cM<|cF [5,6,22] O<|uU [6] O (α:=adx) (fun s4=>[(5,.val (TS s4))]) q (fun k5 q=>?_) (fun s4 q=>?_)
  ·refine gc O q (fun Pp q=>?_) fun Pp q=>?_
   ·obtain⟨x7,h8,q⟩:=ab q;exact rK<|cM<|cP (fY U (aT O) (Lo.some aI) Lo.none h8)<|cO (oA O)<|ak 96 O (cm q O)
   ·exact aj (cm q O)
  ·refine aw ?_;obtain⟨x9,kG,q⟩:=ab q;refine rS<|cM<|cC (zT kG) O<|cA<|ak 224 O<|ah ?_
   obtain⟨iM,qC,q⟩:=aH q;refine rS<|cM<|cP (cq (aT O) aI)<|cM<|gV O O (ov 5 O on) (fun wk=>oM O)<|gV O O (oo 30 O id on) (fun Az=>fy U (aT O))<|gV O O (ov 7 O on) (fun CL=>oM O)<|gV O O (oo 31 O id (oo 32 O id on)) (fun JQ=>bn (aT O) (aT O) (qC JQ))<|gV O O (oo 33 O id on) (fun OQ=>cq (aT O) aI)<|cP (fO (aT O) O jY)<|cF [5,6,7,35] O<|gc O q (fun N3 q=>?_) fun N3 q=>?_
   ·refine rS<|cI<|cI<|cB<|ak 28 O ?_
    cases q;exact an (fX O O (bu.tmp O O (bu.tmp O O (bu.tmp O O bu.nil))))
   ·refine aj (aw ?_);obtain⟨gp,mu,gS,Q,q⟩:=b2 q;refine rS<|cM<|cM<|cP (fY U (aT O) Lo.none (Lo.some (aT O)) mu)<|cC (u7 Q) O<|cA<|cI<|ak 992 O<|ah<|rS<|cM<|cM<|cP (fy U (aT O))<|cL O O<|cF [5,6,7,8,9,43] O<|uU [6,8] O (α:=Int) (fun UQ=>[(9,.val (TiZ UQ))]) q (fun XE q=>?_) (fun UQ q=>?_)
    ·refine gc O q (fun Gq q=>?_) fun Gq q=>?_
     ·obtain⟨kQ,wb,kP,wP,nZ,Ba,q⟩:=b3 q;exact rK<|cM<|cM<|cH O wb<|cP (fY U (aT O) (Lo.some (aT O)) Lo.none wP)<|cC (u7 Ba) O<|cO (oA O)<|ak 832 O (cm q O)
     ·exact aj (cm q O)
    ·refine aw ?_;refine ah<|rS<|cM<|cF [8,9,49] O<|uU [9] O (α:=Int) (fun Dq=>[(8,.val (TiZ Dq))]) q (fun XD q=>?_) (fun Dq q=>?_)
     ·refine gc O q (fun R1 q=>?_) fun R1 q=>?_
      ·obtain⟨qE,CO,q⟩:=ab q;exact rK<|cM<|cP (bn aI (aT O) CO)<|cO (oA O)<|ak 768 O (cm q O)
      ·exact aj (cm q O)
     ·refine aw ?_;refine rS<|cM<|cM<|cA<|cA<|cB<|ak 28 O ?_
      cases q;exact an (fX O O (bu.tmp O O (bu.tmp O O (bu.tmp O O bu.nil))))
def Fu{a0 r}(q:qU a0=some r):al prog 260 [bh a0] (.vs [bh r]):=by
 refine c7 func260 O ntmps260 (by kernel_rfl) fun w0 H0=>rS<|cX<|cT j3<|ak 6 O ?_
 obtain⟨x1,h2,q⟩:=ab q;refine rS<|jg 0 O pC O xD<|cP (jF (aT O))<|jg 1 O iq O lY<|cC (jl h2) O<|cs O O O eF<|ak 4 O ?_
 cases q;exact an (q1 O eF)
def pP{a0 a1 r}(q:ik a0 a1=some r):al prog 183 [bh a0,bh a1] (.vs [TS r]):=by
 unfold ik at q;refine c7 func183 O ntmps183 (by kernel_rfl) fun w0 H0=>rS<|cX<|cX<|cP (aA (Arg.s O))<|ak 12 O<|ah<|rS<|jg 0 O pC O xD<|ak 4108 O<|DV (α:=(Bool×ard Int)×(Bool×ard Int)) (fun s1=>[(2,.own 185 (bh s1.1)),(3,.own 185 (bh s1.2))]) q (fun k2 q=>?_) (fun s1 q=>?_)
 ·refine gc O q (fun hb3 q=>?_) fun hb3 q=>?_
  ·obtain⟨x4,h5,x6,h7,q⟩:=b2 q;exact gD 6 mixed<|dP [2] O (ae O eF)<|dP [13] O (oC (Fu h5) O)<|dP [3] O (ae O eF)<|dP [15] O (oC (Fu h7) O)<|dS [2,14] O (ds O O O eF)<|dS [3,16] O (ds O O O eF)<|dN<|dE [2,3] O (by kernel_rfl)<|cD (cm q O)
  ·exact aj (cm q O)
 ·refine aw ?_;obtain⟨x8,h9,q⟩:=ab q;refine rS<|jg 1 O iq O lY<|jg 1 O iq O lY<|cC (C4 h9) O<|cA<|ak 44 O ?_
  obtain⟨dz,jv,q⟩:=ab q;refine rS<|jg 1 O iq O lY<|cM<|cC (sM jv) O<|cZ<|cE<|cE<|cA<|cA<|ak 108 O ?_
  obtain⟨fp,kU,q⟩:=ab q;refine rS<|jg 1 O iq O lY<|cM<|cC (sM kU) O<|cZ<|cE<|cE<|cA<|cA<|ak 324 O ?_
  obtain⟨gp,mu,gS,Q,q⟩:=b2 q;refine rS<|jg 0 O pC O xD<|cM<|cC (jl mu) O<|cC (Bj Q) O<|cA<|ak 1280 O<|ah ?_
  obtain⟨iZ,qi,q⟩:=aH q;refine rS<|cM<|cJ dF O<|cP (df (aT O) aI)<|cM<|gV O O (ov 8 O on) (fun rW=>oM O)<|gV O O (oo 45 O id on) (fun hg2=>kS eT (dI O) (aT O) aI (qi hg2))<|gV O O (oo 46 O id on) (fun P=>aU (aT O) C)<|gV O O (oo 47 O id on) (fun wk=>df (aT O) aI)<|cP (dh (aT O) O je)<|cF [8,10,49] O<|gc O q (fun Gq q=>?_) fun Gq q=>?_
  ·refine rS<|cM<|cA<|cF [4] O ?_
   cases q;exact an (r1 O)
  ·refine aj (aw ?_);obtain⟨kQ,wb,kP,wP,nZ,Ba,oN,CP,q⟩:=b4 q;refine rS<|cM<|cP (pY (aT O) (Arg.s O) wb)<|cM<|cC (jl wP) O<|cC (Bj Ba) O<|cP (pY (aT O) (aT O) CP)<|cA<|cF [4] O ?_
   cases q;exact an (r1 O)
def SJ{a0 a1 r}(q:sx a0 a1=some r):al prog 258 [TiZ a0,TiZ a1] (.vs [TiZ r]):=by
 refine c7 func258 O ntmps258 (by kernel_rfl) fun w0 H0=>rS<|cI<|ak 3 O<|ah<|ai<|gl (σ:=Int×Int) (fun s1=>[(0,.val (TiZ s1.1)),(1,.val (TiZ s1.2))]) q O (fun k2 s1 q=>?_)
 refine ah<|rS<|cM<|cP (cq (aT O) aI)<|ak 67 O<|gc O q (fun hb3 q=>?_) fun hb3 q=>?_
 ·refine aj<|aw<|ai ?_
  obtain⟨x4,h5,q⟩:=ab q;exact gD 6 mixed<|dP [1] O (oM O)<|dP [0] O (oM O)<|dP [1] O (oM O)<|dP [8,9] O (mQ (aT O) (aT O) h5)<|dP [7] O (oA O)<|dP [10] O (oA O)<|dN<|dE [0,1] O (by kernel_rfl)<|cD (cm q O)
 ·refine aN<|aw<|rS<|cM<|cA<|cF [4] O ?_
  cases q;exact an (r1 O)
def MA{a0 a1 r}(q:uH a0 a1=some r):al prog 181 [TiZ a0,TiZ a1] (.vs [TS r]):=by
 refine c7 func181 O ntmps181 (by kernel_rfl) fun w0 H0=>rS<|cP (aA (Arg.s O))<|ak 3 O<|ah<|rS<|cM<|cP (eC (aT O) aI)<|cM<|gV O O (ov 0 O on) (fun rW=>oM O)<|gV O O (oo 10 O id on) (fun hg2=>cq (aT O) aI)<|cP (fO (aT O) O jY)<|cM<|gV O O (ov 1 O on) (fun P=>oM O)<|gV O O (oo 14 O id on) (fun wk=>eC (aT O) aI)<|cP (fO (aT O) O jY)<|cM<|gV O O (ov 1 O on) (fun Az=>oM O)<|gV O O (oo 18 O id on) (fun CL=>cq (aT O) aI)<|cP (fO (aT O) O jY)<|cF [0,1,20] O ?_
 refine gc O q (fun hb1 q=>?_) fun hb1 q=>?_
 ·obtain⟨x2,h3,x4,h5,x6,h7,q⟩:=b3 q;refine rS<|cM<|cC (u6 h3) O<|cM<|cC (u6 h5) O<|cC (pP h7) O<|cA<|cF [4] O ?_
  cases q;exact an (r1 O)
 ·refine aj<|aw<|ah<|rS<|cM<|cP (eC (aT O) aI)<|cF [0,1,27] O<|DV (α:=Int×Int) (fun s8=>[(0,.val (TiZ s8.1)),(1,.val (TiZ s8.2))]) q (fun k9 q=>?_) (fun s8 q=>?_)
  ·refine gc O q (fun wO q=>?_) fun wO q=>?_
   ·obtain⟨iM,qC,iW,nJ,q⟩:=b2 q;exact rK<|cM<|cP (bn aI (aT O) qC)<|cM<|cP (bn aI (aT O) nJ)<|cO (oA O)<|cO (oA O)<|ak 3 O (cm q O)
   ·exact aj (cm q O)
  ·refine aw ?_;obtain⟨kd,S,iP,T,q⟩:=b2 q;refine rS<|cM<|cM<|cP (bn aI (aT O) S)<|cP (Rf (aT O) (aT O))<|cM<|cC (SJ T) O<|cA<|ak 35 O ?_
   obtain⟨ju,Z,kQ,wb,q⟩:=b2 q;refine gE 8 mixed<|dP [0] O (oM O)<|dP [5] O (oM O)<|dP [38,39] O (rq (aT O) (aT O) Z)<|dP [1] O (oM O)<|dP [5] O (oM O)<|dP [41,42] O (rq (aT O) (aT O) wb)<|dP [40] O (oA O)<|dP [43] O (oA O)<|dN<|dE [0,1] O (by kernel_rfl)<|cD<|rS<|cP (aA (Arg.s O))<|ak 67 O<|ah<|rS<|cM<|cP (eC (aT O) aI)<|cF [0,1,6,45] O<|uU [0,1] O (α:=adx) (fun Vr=>[(6,.val (TS Vr))]) q (fun k24 q=>?_) (fun Vr q=>?_)
   ·refine gc O q (fun R2 q=>?_) fun R2 q=>?_
    ·exact rK<|cO (aA (Arg.s O))<|ak 67 O (cm q O)
    ·exact aj (cm q O)
   ·refine aw ?_;obtain⟨yY,JX,oY,Fi,qE,CO,q⟩:=b3 q;refine rS<|cM<|cM<|cM<|cP (bn aI (aT O) JX)<|cP (Rf (aT O) (aT O))<|cC (rn Fi) O<|cP (pY (aT O) (aT O) CO)<|cO (oA O)<|ak 66 O<|ah<|rS<|cM<|cP (cq (aT O) aI)<|cF [1,6,54] O<|DV (α:=adx) (fun Vq=>[(6,.val (TS Vq))]) q (fun k33 q=>?_) (fun Vq q=>?_)
    ·refine gc O q (fun acv q=>?_) fun acv q=>?_
     ·obtain⟨sK,Gt,xc,JV,sf,Gs,q⟩:=b3 q;exact rK<|cM<|cP (pY (aT O) (Arg.s O) Gt)<|cM<|cC (rn JV) O<|cP (pY (aT O) (aT O) Gs)<|cO (oA O)<|cF [6] O (cm q O)
     ·exact aj (cm q O)
    ·refine aw ?_;refine rS<|cM<|cA<|cF [4] O ?_
     cases q;exact an (r1 O)
def qL{a0 a1 r}(q:lg a0 a1=some r):al prog 185 [bh a0,bh a1] (.vs [bh r]):=by
 refine c7 func185 O ntmps185 (by kernel_rfl) fun w0 H0=>rS<|cX<|cX<|cT j3<|ak 28 O ?_
 obtain⟨x1,h2,x3,h4,q⟩:=b2 q;refine gE 12 mixed<|dQ 0 O pC O xD<|dQ 0 O pC O xD<|dP [6,8] O (Re EM (aT O) (aT O))<|dQ 1 O iq O lY<|dQ 1 O iq O lY<|dP [11,13] O (oC (sL h2) O)<|dP [9,14] O (oC (jl h4) O)<|dS [4,15] O (ds O O O eF)<|dN<|dE [4] O (by kernel_rfl)<|cD ?_
 cases q;exact an (q1 O eF)
def kY{a0 a1 r}(q:gI a0 a1=some r):al prog 102 [TS a0,TS a1] (.vs [TS r]):=by
 refine c7 func102 O ntmps102 (by kernel_rfl) fun w0 H0=>rS<|cP (aA (Arg.s O))<|ak 3 O ?_
 obtain⟨x1,h2,q⟩:=ab q;refine rS<|cM<|cC (vb h2) O<|cZ<|cE<|cE<|cE<|cA<|cA<|cA<|ak 227 O ?_
 obtain⟨x3,h4,q⟩:=ab q;refine rS<|cM<|cC (vb h4) O<|cZ<|cE<|cE<|cE<|cA<|cA<|cA<|ak 2019 O<|ah<|rS<|cM<|cM<|gV O O (ov 10 O on) (fun rW=>oM O)<|cP (dh (aT O) O je)<|ak 1073742691 O<|gc O q (fun CN q=>?_) fun CN q=>?_
 ·obtain⟨x6,h7,x8,h9,dz,jv,q⟩:=b3 q;refine rS<|cM<|cM<|cP (oz (aT O) (aT O) h7)<|cM<|cM<|cP (oz (aT O) (aT O) h9)<|cC (MA jv) O<|cA<|cF [4] O ?_
  cases q;exact an (r1 O)
 ·refine aj (aw ?_);obtain⟨fp,kU,q⟩:=ab q;refine rS<|cM<|cC (nR kU) O<|cZ<|cE<|cE<|cT j3<|cT j3<|cs O O O eF<|cs O O O eF<|ak 6146 O ?_
  obtain⟨gp,mu,q⟩:=ab q;refine rS<|cM<|cC (nR mu) O<|cZ<|cE<|cE<|cT j3<|cT j3<|cs O O O eF<|cs O O O eF<|ak 30720 O ?_
  obtain⟨gS,Q,iZ,qi,kR,h21,q⟩:=b3 q;refine gE 8 mixed<|dP [11] O (ae O eF)<|dP [13] O (ae O eF)<|dP [48,49] O (oC (qL Q) O)<|dP [12] O (ae O eF)<|dP [14] O (ae O eF)<|dP [51,52] O (oC (qL qi) O)<|dP [50,53] O (oC (pP h21) O)<|dP [54] O (oA O)<|dN<|dE [4] O (by kernel_rfl)<|cD ?_
  cases q;exact an (r1 O)
def zV{a0 a1 r}(q:nV a0 a1=some r):al prog 320 [(TL TiZ) a0,TiZ a1] (.vs [TiZ r]):=by
 refine c7 func320 O ntmps320 (by kernel_rfl) fun w0 H0=>rS<|cI<|ak 3 O<|ah<|rS<|cM<|cM<|cJ dF O<|cL O O<|ak 259 O<|gc O q (fun hb1 q=>?_) fun hb1 q=>?_
 ·obtain⟨x2,h3,q⟩:=ab q;refine rS<|cM<|cM<|cP (oX eT (dI O) O O h3)<|cR O C<|cA<|cF [4] O ?_
  cases q;exact an (r1 O)
 ·refine aj<|aw<|rS<|cI<|cF [4] O ?_
  cases q;exact an (r1 O)
def G5{a0 a1 r}(q:oG a0 a1=some r):al prog 262 [(TL TiZ) a0,(TL TiZ) a1] (.vs [(TL TiZ) r]):=by
 refine c7 func262 O ntmps262 (by kernel_rfl) fun w0 H0=>rS<|cP (ba TiZ 3 1)<|ak 3 O<|rS<|cP (ba TiZ 3 1)<|ak 35 O<|rS<|cI<|ak 99 O<|ah<|rS<|cI<|ak 227 O<|ai<|jj [0,1] O (σ:=ard Int×Int×Int) (fun s1=>[(5,.buf 3 1 (lT TiZ s1.1)),(6,.val (TiZ s1.2.1)),(7,.val (TiZ s1.2.2))]) q O (fun k2 s1 q=>?_)
 refine ah<|rS<|cM<|cM<|cJ dF O<|cL O O<|cM<|gV O O (ov 7 O on) (fun rW=>oM O)<|gV O O (ov 1 O on) (fun hg2=>oM O)<|gV O O (oo 15 O id on) (fun P=>pW dF (aT O))<|gV O O (oo 14 O id (oo 16 O id on)) (fun wk=>eC (aT O) (aT O))<|cP (fO (aT O) O jY)<|cM<|gV O O (ov 6 O on) (fun Az=>oM O)<|gV O O (oo 20 O id on) (fun CL=>cq (aT O) aI)<|cP (fO (aT O) O jY)<|ak 4194531 O<|gc O q (fun hb3 q=>?_) fun hb3 q=>?_
 ·refine aj<|aw<|ah<|ai ?_
  obtain⟨x4,h5,x6,h7,x8,h9,dz,jv,q⟩:=b4 q;refine rS<|cM<|cM<|cC (zV h5) O<|cM<|cM<|cC (zV h7) O<|cP (bR (aT O) (aT O) h9)<|cM<|cP (bR (aT O) (aT O) jv)<|cA<|ak 419 O ?_
  obtain⟨fp,kU,gp,mu,q⟩:=b2 q;refine rS<|cQ<|cM<|cP (mQ (aT O) aI kU)<|cP (bS oW rZ O O)<|cS (dp dF GH (dI O) O O (aT O) mu (bU O))<|cS (bt O O (bU O) _ (Or.inl O))<|ak 419 O ?_
  obtain⟨gS,Q,q⟩:=ab q;refine rK<|cM<|cP (rq (aT O) aI Q)<|cA<|ak 227 O (aw ?_)
  obtain⟨iZ,qi,q⟩:=ab q;exact rK<|cM<|cH O qi<|cO (oA O)<|ak 227 O (cm q O)
 ·refine aN<|aw<|rS<|cQ<|cG (ij (t:=5) O)<|cG (jL (s:=41) O O)<|cA<|cF [4] O ?_
  cases q;exact an (r1 O)
def y4{a0 a1 r}(q:mj a0 a1=some r):al prog 264 [(TL TiZ) a0,(TL TiZ) a1] (.vs [(TL TiZ) r]):=by
 refine c7 func264 O ntmps264 (by kernel_rfl) fun w0 H0=>rS<|cP (aA (Arg.nn (f:=TiZ)))<|ak 3 O<|rS<|cP (ba TiZ 3 1)<|ak 35 O<|rS<|cI<|ak 99 O<|ah<|rS<|cI<|ak 227 O<|ai<|jj [0,1] O (σ:=ard Int×Int×Int) (fun s1=>[(5,.buf 3 1 (lT TiZ s1.1)),(6,.val (TiZ s1.2.1)),(7,.val (TiZ s1.2.2))]) q O (fun k2 s1 q=>?_)
 refine ah<|rS<|cM<|cM<|cJ dF O<|cL O O<|ak 4323 O<|gc O q (fun hb3 q=>?_) fun hb3 q=>?_
 ·refine aj<|aw<|ah<|ai ?_
  obtain⟨x4,h5,x6,h7,x8,h9,dz,jv,q⟩:=b4 q;refine gE 11 mixed<|dP [0] O (oM O)<|dP [7] O (oM O)<|dP [15,16] O (oX eT (dI O) O O h5)<|dP [17] O (aU (aT O) C)<|dP [1] O (oM O)<|dP [7] O (oM O)<|dP [19,20] O (oC (zV h7) O)<|dP [18,21] O (bn (aT O) (aT O) h9)<|dP [6] O (oM O)<|dP [22,23] O (bn (aT O) (aT O) jv)<|dP [24] O (oA O)<|dN<|dE [0,1,5,7,8] O (by kernel_rfl)<|cD<|rS<|cI<|ak 483 O<|ah<|rS<|cM<|cP (eC (aT O) aI)<|ak 67109347 O<|uU [0,1,5,7] O (α:=Int×Int) (fun E9=>[(6,.val (TiZ E9.1)),(8,.val (TiZ E9.2))]) q (fun k13 q=>?_) (fun E9 q=>?_)
  ·refine gc O q (fun R4 q=>?_) fun R4 q=>?_
   ·obtain⟨kd,S,q⟩:=ab q;exact rS<|cM<|cH O S<|cO (oA O)<|ak 419 O<|rK<|cI<|ak 483 O (cm q O)
   ·exact aj (cm q O)
  ·refine aw ?_;obtain⟨iP,T,q⟩:=ab q;refine rK<|cQ<|cM<|cP (bS oW rZ O O)<|cS (dp dF GH (dI O) O O (aT O) T (bU O))<|cS (bt O O (bU O) _ (Or.inl O))<|ak 227 O (aw ?_)
   obtain⟨ju,Z,q⟩:=ab q;exact rK<|cM<|cH O Z<|cO (oA O)<|ak 227 O (cm q O)
 ·refine aN (aw ?_);obtain⟨kQ,wb,q⟩:=ab q;refine rS<|cQ<|cG (ij (t:=5) O)<|cG (jL (s:=33) O O)<|cC (ny wb) O<|cA<|cF [4] O ?_
  cases q;exact an (r1 O)
def QK{a0 a1 r}(q:xr a0 a1=some r):al prog 184 [bh a0,bh a1] (.vs [bh r]):=by
 refine c7 func184 O ntmps184 (by kernel_rfl) fun w0 H0=>rS<|cX<|cX<|cT j3<|ak 28 O<|ah<|rS<|jg 0 O pC O xD<|jg 0 O pC O xD<|cP (Rm EM (aT O) (aT O))<|ak 540 O<|gc O q (fun hb1 q=>?_) fun hb1 q=>?_
 ·obtain⟨x2,h3,x4,h5,q⟩:=b2 q;refine gE 9 mixed<|dQ 0 O pC O xD<|dQ 1 O iq O lY<|dQ 1 O iq O lY<|dP [13,15] O (oC (G5 h3) O)<|dP [11,16] O (oC (jl h5) O)<|dS [4,17] O (ds O O O eF)<|dN<|dE [4] O (by kernel_rfl)<|cD ?_
  cases q;exact an (q1 O eF)
 ·refine aj<|aw<|ah ?_
  obtain⟨x6,h7,q⟩:=ab q;refine rS<|jg 1 O iq O lY<|jg 1 O iq O lY<|cC (ue h7) O<|cP (jG (aT O) aI)<|ak 8388636 O<|gc O q (fun Y q=>?_) fun Y q=>?_
  ·obtain⟨x9,kG,iM,qC,q⟩:=b2 q;refine gE 9 mixed<|dQ 0 O pC O xD<|dQ 1 O iq O lY<|dQ 1 O iq O lY<|dP [27,29] O (oC (y4 kG) O)<|dP [25,30] O (oC (jl qC) O)<|dS [4,31] O (ds O O O eF)<|dN<|dE [4] O (by kernel_rfl)<|cD ?_
   cases q;exact an (q1 O eF)
  ·refine aj (aw ?_);obtain⟨iW,nJ,kd,S,q⟩:=b2 q;refine gE 9 mixed<|dQ 0 O pC O xD<|dQ 1 O iq O lY<|dQ 1 O iq O lY<|dP [35,37] O (oC (y4 nJ) O)<|dP [33,38] O (oC (jl S) O)<|dS [4,39] O (ds O O O eF)<|dN<|dE [4] O (by kernel_rfl)<|cD ?_
   cases q;exact an (q1 O eF)
def C7{a0 a1 r}(q:ml a0 a1=some r):al prog 101 [TS a0,TS a1] (.vs [TS r]):=by
 refine c7 func101 O ntmps101 (by kernel_rfl) fun w0 H0=>rS<|cP (aA (Arg.s O))<|ak 3 O ?_
 obtain⟨x1,h2,q⟩:=ab q;refine rS<|cM<|cC (vb h2) O<|cZ<|cE<|cE<|cE<|cA<|cA<|cA<|ak 227 O ?_
 obtain⟨x3,h4,q⟩:=ab q;refine rS<|cM<|cC (vb h4) O<|cZ<|cE<|cE<|cE<|cA<|cA<|cA<|ak 2019 O<|ah<|rS<|cM<|cM<|gV O O (ov 10 O on) (fun rW=>oM O)<|cP (dh (aT O) O je)<|ak 1073742691 O<|gc O q (fun CN q=>?_) fun CN q=>?_
 ·obtain⟨x6,h7,x8,h9,dz,jv,fp,kU,gp,mu,q⟩:=b5 q;refine rS<|cM<|cM<|cP (oz (aT O) (aT O) h7)<|cM<|cM<|cP (oz (aT O) (aT O) h9)<|cP (bR (aT O) (aT O) jv)<|cM<|cM<|cP (oz (aT O) (aT O) kU)<|cC (MA mu) O<|cA<|cF [4] O ?_
  cases q;exact an (r1 O)
 ·refine aj (aw ?_);obtain⟨gS,Q,q⟩:=ab q;refine rS<|cM<|cC (nR Q) O<|cZ<|cE<|cE<|cT j3<|cT j3<|cs O O O eF<|cs O O O eF<|ak 6146 O ?_
  obtain⟨iZ,qi,q⟩:=ab q;refine rS<|cM<|cC (nR qi) O<|cZ<|cE<|cE<|cT j3<|cT j3<|cs O O O eF<|cs O O O eF<|ak 30720 O ?_
  obtain⟨kR,h21,my,Cf,sE,Gv,yY,JX,oY,Fi,q⟩:=b5 q;refine gE 12 mixed<|dP [11] O (ae O eF)<|dP [14] O (ae O eF)<|dP [52,53] O (oC (qL h21) O)<|dP [13] O (ae O eF)<|dP [12] O (ae O eF)<|dP [55,56] O (oC (qL Cf) O)<|dP [54,57] O (oC (QK Gv) O)<|dP [12] O (ae O eF)<|dP [14] O (ae O eF)<|dP [59,60] O (oC (qL JX) O)<|dP [58,61] O (oC (pP Fi) O)<|dP [62] O (oA O)<|dN<|dE [4] O (by kernel_rfl)<|cD ?_
  cases q;exact an (r1 O)
def C6{a0 a1 r}(q:ph a0 a1=some r):al prog 44 [aW a0,aW a1] (.vs [TS r]):=by
 refine c7 func44 O ntmps44 (by kernel_rfl) fun w0 H0=>rS<|cX<|cX<|cP (aA (Arg.s O))<|ak 12 O ?_
 obtain⟨x1,h2,x3,h4,x5,h6,x7,h8,x9,kG,q⟩:=b5 q;refine gE 18 mixed<|dP [2] O (iO O jC O)<|dP [5,2] O (oP 0 O O X)<|dP [3] O (iO O jC O)<|dP [7,3] O (oP 0 O O X)<|dP [6,8] O (oC (kY h2) O)<|dP [2] O (iO O jC O)<|dP [10,2] O (oP 1 O O X)<|dP [3] O (iO O jC O)<|dP [12,3] O (oP 1 O O X)<|dP [11,13] O (oC (kY h4) O)<|dP [9,14] O (oC (C7 h6) O)<|dP [2] O (iO O jC O)<|dP [16,2] O (oP 2 O O X)<|dP [3] O (iO O jC O)<|dP [18,3] O (oP 2 O O X)<|dP [17,19] O (oC (kY h8) O)<|dP [15,20] O (oC (C7 kG) O)<|dP [21] O (oA O)<|dN<|dE [4] O (by kernel_rfl)<|cD ?_
 cases q;exact an (r1 O)
def MB{a0 r}(q:pg a0=some r):al prog 43 [TS a0] (.vs [aY r]):=by
 unfold pg at q;refine c7 func43 O ntmps43 (by kernel_rfl) fun w0 H0=>rS<|cB<|ak 1 O<|rS<|cM<|cP (uA (aT O) (Arg.s O))<|cA<|ak 4 O ?_
 cases q;exact an (r1 O)
def G4{a0 r}(q:oF a0=some r):al prog 9 [cz a0] (.vs [TiZ r]):=by
 refine c7 func9 O ntmps9 (by kernel_rfl) fun w0 H0=>rS<|cX<|cI<|ak 2 O<|rS<|jg 0 O ET O B<|jg 1 O zK O B<|jg 2 O zJ O B<|cP (sY (s':= .val (TL aW ([a0.1,a0.2.1,a0.2.2]:ard ate))) (bS jR Oy O O) O)<|cA<|ak 10 O<|ah<|rS<|cI<|ak 26 O<|ai<|jj [1,3] O (σ:=Int) (fun s1=>[(4,.val (TiZ s1))]) q O (fun k2 s1 q=>?_)
 refine ah<|rS<|cM<|cP (eC (aT O) aI)<|ak 16410 O<|gc O q (fun hb3 q=>?_) fun hb3 q=>?_
 ·refine aj<|aw<|ah<|ai ?_
  obtain⟨x4,h5,x6,h7,q⟩:=b2 q;refine rS<|cM<|cM<|cP (oX Hs (dI O) O O h5)<|cR O B<|cC (AK h7) O<|cA<|ak 58 O<|rS<|cM<|cP (da (aT O) aI)<|ak 8388666 O<|gc O q (fun Y q=>?_) fun Y q=>?_
  ·refine rS<|cM<|cA<|ak 4 O ?_
   cases q;exact an (r1 O)
  ·refine aj (aw ?_);obtain⟨x9,kG,q⟩:=ab q;exact rK<|cM<|cH O kG<|cO (oA O)<|ak 26 O (cm q O)
 ·refine aN<|aw<|ah ?_
  obtain⟨iM,qC,q⟩:=ab q;obtain⟨iW,nJ,q⟩:=aH q;refine rS<|jg 1 O zK O B<|cC (AJ qC) O<|cM<|gV O O (ov 1 O on) (fun rW=>a8 O zJ)<|gV O O (oo 29 O id (ov 1 O on)) (fun hg2=>oP 2 O O B)<|gV O O (oo 30 O id on) (fun P=>oC (AJ (nJ P)) O)<|cP (fO (aT O) O jY)<|cF [1,32] O<|gc O q (fun ait q=>?_) fun ait q=>?_
  ·refine rS<|cI<|ak 4 O ?_
   cases q;exact an (r1 O)
  ·refine aj<|aw<|ah ?_
   obtain⟨gS,Q,iZ,qi,q⟩:=b2 q;refine rS<|jg 1 O zK O B<|jg 2 O zJ O B<|cC (C6 Q) O<|cC (MB qi) O<|cP (jF (aT O))<|cF [39] O<|gc O q (fun Gq q=>?_) fun Gq q=>?_
   ·refine rS<|cI<|ak 4 O ?_
    cases q;exact an (r1 O)
   ·refine aj<|aw<|rS<|cI<|ak 4 O ?_
    cases q;exact an (r1 O)
def O3{a0 r}(q:vt a0=some r):al prog 10 [(TL TiZ) a0] (.vs [TiZ r]):=by
 refine c7 func10 O ntmps10 (by kernel_rfl) fun w0 H0=>rS<|cI<|ak 1 O<|ah<|rS<|cI<|ak 9 O<|ai<|jj [0] O (σ:=Int) (fun s1=>[(3,.val (TiZ s1))]) q O (fun k2 s1 q=>?_)
 refine ah<|rS<|cM<|cM<|cJ dF O<|cL O O<|ak 137 O<|gc O q (fun hb3 q=>?_) fun hb3 q=>?_
 ·refine aj<|aw<|ah<|ai ?_
  obtain⟨x4,h5,q⟩:=ab q;refine rS<|cM<|cM<|cP (oX eT (dI O) O O h5)<|cR O C<|cP (da (aT O) aI)<|ak 16393 O<|gc O q (fun Pp q=>?_) fun Pp q=>?_
  ·obtain⟨x7,h8,q⟩:=ab q;refine rS<|cM<|cM<|cP (oX eT (dI O) O O h8)<|cR O C<|cA<|ak 4 O ?_
   cases q;exact an (r1 O)
  ·refine aj (aw ?_);obtain⟨x9,kG,q⟩:=ab q;exact rK<|cM<|cH O kG<|cO (oA O)<|ak 9 O (cm q O)
 ·refine aN<|aw<|rS<|cI<|ak 4 O ?_
  cases q;exact an (r1 O)
def si{a0 a1 r}(q:lk a0 a1=some r):al prog 105 [TS a0,TS a1] (.vs [TS r]):=by
 refine c7 func105 O ntmps105 (by kernel_rfl) fun w0 H0=>rS<|cP (aA (Arg.s O))<|ak 3 O ?_
 obtain⟨x1,h2,x3,h4,q⟩:=b2 q;refine rS<|cM<|cM<|cC (y5 h2) O<|cC (C7 h4) O<|cA<|cF [4] O ?_
 cases q;exact an (r1 O)
end
end Trn
