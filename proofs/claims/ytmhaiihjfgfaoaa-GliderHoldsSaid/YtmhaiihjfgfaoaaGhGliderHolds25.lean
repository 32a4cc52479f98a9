import Derived.Test.YtmhaiihjfgfaoaaGhGliderHolds3
import Derived.Test.YtmhaiihjfgfaoaaGhGliderHolds17
import Derived.Test.YtmhaiihjfgfaoaaGhGliderHolds24
section
namespace Go.Proofs.Ytmhaiihjfgfaoaa.Pr
open Go.RowKit Go.Proofs.YtmhaiihjfgfaoaaW.PrintWords Go.Proofs.YtmhaiihjfgfaoaaW.PrintLast Go.Proofs.YtmhaiihjfgfaoaaW.PrintMore
attribute [local go_sem] cz cB dK dL cK
set_option linter.unusedVariables false
set_option linter.unusedSimpArgs false
def jL.f (k:Nat) (aj:Int) (ak:Int) (ax:Int) (ay:Int) (aJ:Int) (aC:Int) (aG:Int) (aN:List Bool) (av:List (nU)) (aU:Int) (aQ:Int) (aZ:Int) (bf:Int) (bE:Int) (bF:Int) (bG:Int) (bP:Int) (bQ:Int) (bR:Int) (bS:Int) (a3:Int) (l4:List (vY)):Option ((List (gz)) × Int × Int):=(fK.f k aj ak ax ay aJ aC aG aN av aU aQ aZ bf bE bF bG).bind fun JY=>(if JY = 0 then ((fo.f bP bQ bR bS a3).bind fun He=>(if He = 0 then ((bM.f k l4 aC).bind fun Gx=>(if Gx = 0 then ((bT.f k aj ak ax ay aJ aC aG aN av aU aQ aZ bf bE bF bG bP bQ bR bS a3 l4).bind fun tq=>(some (tq.1,tq.2.1,tq.2.2))) else ((bM.f k l4 aC).bind fun Mt=>(some (([]:List (gz)),0,Mt))))) else ((fo.f bP bQ bR bS a3).bind fun Ql=>(some (([]:List (gz)),0,Ql))))) else ((fK.f k aj ak ax ay aJ aC aG aN av aU aQ aZ bf bE bF bG).bind fun VB=>(some (([]:List (gz)),0,VB))))
set_option maxHeartbeats 8000000 in
set_option maxRecDepth 100000 in
theorem jL.calls (k:Nat) (aj:Int) (ak:Int) (ax:Int) (ay:Int) (aJ:Int) (aC:Int) (aG:Int) (dH:Option Addr) (dD:Nat) (aN:List Bool) (dG:Option Addr) (dE:Nat) (av:List (nU)) (aU:Int) (aQ:Int) (aZ:Int) (bf:Int) (bE:Int) (bF:Int) (bG:Int) (bP:Int) (bQ:Int) (bR:Int) (bS:Int) (a3:Int) (A4:Option Addr) (c4:Nat) (l4:List (vY)) (r1:List (gz)) (r2:Int) (r3:Int) (w:World) (iW:Kd.C Kd.bool w dH aN.length aN) (iX:aN.length≤dD) (iY:Kd.C CY w dG av.length av) (iZ:av.length≤dE) (hr4:Kd.C Yv w A4 l4.length l4) (hc4:l4.length≤c4) (h:jL.f k aj ak ax ay aJ aC aG aN av aU aQ aZ bf bE bF bG bP bQ bR bS a3 l4 = some (r1,r2,r3)):
 Calls Try.prog 31 #[.agg #[.int .i64 aj,.int .i64 ak,.int .i64 ax,.int .i64 ay,.int .i64 aJ,.int .i64 aC,.int .i64 aG,.slice dH aN.length dD,.slice dG av.length dE],.agg #[.int .i64 aU,.int .i64 aQ,.int .i64 aZ,.int .i64 bf,.int .i64 bE,.int .i64 bF,.int .i64 bG],.agg #[.int .i64 bP,.int .i64 bQ,.int .i64 bR,.int .i64 bS],.int .i64 a3,.slice A4 l4.length c4] w fun e w'=>∃ v0_:Value,e = .returned (.tuple #[v0_,.int .i64 r2,.int .i64 r3])∧Kd.R PN 31 w' w.heap.size (fun _=>True) v0_ r1∧Below w.heap.size w w':=by
 have xE:=Try.underlying25
 have BL:=Try.underlying29
 have qP:=Try.underlying31
 have gq:=ae.mk iW
 have gG:=ae.mk iX
 clear iW iX
 have fF:=ae.mk iY
 have gH:=ae.mk iZ
 clear iY iZ
 have HR4:=ae.mk hr4
 have HC4:=ae.mk hc4
 clear hr4 hc4
 have HB:=ae.mk (Below.refl w.heap.size w)
 have H:((fK.f k aj ak ax ay aJ aC aG aN av aU aQ aZ bf bE bF bG).bind fun JY=>(if JY = 0 then ((fo.f bP bQ bR bS a3).bind fun He=>(if He = 0 then ((bM.f k l4 aC).bind fun Gx=>(if Gx = 0 then ((bT.f k aj ak ax ay aJ aC aG aN av aU aQ aZ bf bE bF bG bP bQ bR bS a3 l4).bind fun tq=>(some (tq.1,tq.2.1,tq.2.2))) else ((bM.f k l4 aC).bind fun Mt=>(some (([]:List (gz)),0,Mt))))) else ((fo.f bP bQ bR bS a3).bind fun Ql=>(some (([]:List (gz)),0,Ql))))) else ((fK.f k aj ak ax ay aJ aC aG aN av aU aQ aZ bf bE bF bG).bind fun VB=>(some (([]:List (gz)),0,VB))))) = some (r1,r2,r3):=h
 clear h
 replace H:=Option.bind_eq_some_iff.mp H
 obtain ⟨JY,KI,H⟩:=H
 replace H:(if JY = 0 then ((fo.f bP bQ bR bS a3).bind fun He=>(if He = 0 then ((bM.f k l4 aC).bind fun Gx=>(if Gx = 0 then ((bT.f k aj ak ax ay aJ aC aG aN av aU aQ aZ bf bE bF bG bP bQ bR bS a3 l4).bind fun tq=>(some (tq.1,tq.2.1,tq.2.2))) else ((bM.f k l4 aC).bind fun Mt=>(some (([]:List (gz)),0,Mt))))) else ((fo.f bP bQ bR bS a3).bind fun Ql=>(some (([]:List (gz)),0,Ql))))) else ((fK.f k aj ak ax ay aJ aC aG aN av aU aQ aZ bf bE bF bG).bind fun VB=>(some (([]:List (gz)),0,VB)))) = some (r1,r2,r3):=H
 have A6:=ae.mk KI
 clear KI
 by_cases c7:JY = 0
 ·rw [if_pos c7] at H
  have WX:(JY == 0) = true:=beq_iff_eq.mpr c7
  have aDj:(JY != 0) = false:=bne_eq_false_iff_eq.mpr c7
  clear c7
  replace H:=Option.bind_eq_some_iff.mp H
  obtain ⟨He,U6,H⟩:=H
  replace H:(if He = 0 then ((bM.f k l4 aC).bind fun Gx=>(if Gx = 0 then ((bT.f k aj ak ax ay aJ aC aG aN av aU aQ aZ bf bE bF bG bP bQ bR bS a3 l4).bind fun tq=>(some (tq.1,tq.2.1,tq.2.2))) else ((bM.f k l4 aC).bind fun Mt=>(some (([]:List (gz)),0,Mt))))) else ((fo.f bP bQ bR bS a3).bind fun Ql=>(some (([]:List (gz)),0,Ql)))) = some (r1,r2,r3):=H
  have A8:=ae.mk U6
  clear U6
  by_cases c9:He = 0
  ·rw [if_pos c9] at H
   have U4:(He == 0) = true:=beq_iff_eq.mpr c9
   have aDk:(He != 0) = false:=bne_eq_false_iff_eq.mpr c9
   clear c9
   replace H:=Option.bind_eq_some_iff.mp H
   obtain ⟨Gx,Jr,H⟩:=H
   replace H:(if Gx = 0 then ((bT.f k aj ak ax ay aJ aC aG aN av aU aQ aZ bf bE bF bG bP bQ bR bS a3 l4).bind fun tq=>(some (tq.1,tq.2.1,tq.2.2))) else ((bM.f k l4 aC).bind fun Mt=>(some (([]:List (gz)),0,Mt)))) = some (r1,r2,r3):=H
   have W9:=ae.mk Jr
   clear Jr
   by_cases c11:Gx = 0
   ·rw [if_pos c11] at H
    have IK:(Gx == 0) = true:=beq_iff_eq.mpr c11
    have arb:(Gx != 0) = false:=bne_eq_false_iff_eq.mpr c11
    clear c11
    replace H:=Option.bind_eq_some_iff.mp H
    obtain ⟨⟨arc,ard,arf⟩,Vu,H⟩:=H
    replace H:(some (arc,ard,arf)) = some (r1,r2,r3):=H
    have A12:=ae.mk Vu
    clear Vu
    simp only [Option.some.injEq,Prod.mk.injEq] at H
    obtain ⟨rfl,rfl,rfl⟩:=H
    go_enter Try.func31,Try.ntmps31
    go_wp2_with (first|((with_reducible refine aA (N:=5) rfl ?_);refine az (by rfl) (N:=5) (by rfl) (cs:=#[.int .i64 aj,.int .i64 ak,.int .i64 ax,.int .i64 ay,.int .i64 aJ,.int .i64 aC,.int .i64 aG,.slice dH aN.length dD,.slice dG av.length dE]) (t:=25) gQ ?_;intro aeH hg w13 hbox hb;have il:=ae.mk (hbox);have aeI:=dn HB hg;have aeJ:=dn HB hg;replace HB:=dF HB hb;clear hb hbox hg)|((with_reducible refine aA (N:=6) rfl ?_);refine az (by rfl) (N:=6) (by rfl) (cs:=#[.int .i64 aU,.int .i64 aQ,.int .i64 aZ,.int .i64 bf,.int .i64 bE,.int .i64 bF,.int .i64 bG]) (t:=29) gQ ?_;intro aeK hg w14 hbox hb;have jN:=ae.mk (hbox);have aeL:=dn HB hg;have aeM:=dn HB hg;have uK:=iE il hg;have uL:=iF il hg;replace il:=bC il hb;replace HB:=dF HB hb;clear hb hbox hg)|((with_reducible refine aA (N:=7) rfl ?_);refine az (by rfl) (N:=7) (by rfl) (cs:=#[.int .i64 bP,.int .i64 bQ,.int .i64 bR,.int .i64 bS]) (t:=31) gQ ?_;intro aaq hg WW hbox hb;have nC:=ae.mk (hbox);have aeN:=dn HB hg;have aeO:=dn HB hg;have uM:=iE il hg;have uN:=iF il hg;have uO:=iE jN hg;have uP:=iF jN hg;replace il:=bC il hb;replace jN:=bC jN hb;replace HB:=dF HB hb;clear hb hbox hg;have QF:=uK.out;have QG:=uL.out;have QM:=uM.out;have QN:=uN.out;obtain ⟨si,sj,su,sw,yX,yY,yZ,za,zb,sD,sF,sG,sH,ze,zf,zg,zh,zi⟩:=iI il.out;have Vh:=uO.out;have Vi:=uP.out;obtain ⟨yM,yN,Ca,Cb,Es,Et,Eu,yO,yP,Cc,Ce,Ev,Ew,Ex⟩:=ko jN.out)|((with_reducible refine aW (f:=79) rfl ?_);refine dM (some 15) rfl rfl Try.func79 aR rfl #[.agg #[.int .i64 aj,.int .i64 ak,.int .i64 ax,.int .i64 ay,.int .i64 aJ,.int .i64 aC,.int .i64 aG,.slice dH aN.length dD,.slice dG av.length dE],.agg #[.int .i64 aU,.int .i64 aQ,.int .i64 aZ,.int .i64 bf,.int .i64 bE,.int .i64 bF,.int .i64 bG]] rfl jJ ?_;(with_reducible refine (fK.calls k aj ak ax ay aJ aC aG _ _ aN _ _ av aU aQ aZ bf bE bF bG JY _ ?dz ?dA ?dR ?dS A6.out).mono ?_);(case dz=>repeat (first|exact (Kd.bn gq.out HB.out)|(with_reducible refine Kd.bA ?_ _)|(with_reducible refine Kd.bB ?_ _)|(with_reducible refine Kd.bK ?_)));(case dA=>exact gG.out);(case dR=>repeat (first|exact (Kd.bn fF.out HB.out)|(with_reducible refine Kd.bA ?_ _)|(with_reducible refine Kd.bB ?_ _)|(with_reducible refine Kd.bK ?_)));(case dS=>exact gH.out);rintro e w21 ⟨rfl,hb⟩;refine ⟨_,rfl,?_⟩;replace il:=bC il hb;replace jN:=bC jN hb;replace nC:=bC nC hb;replace HB:=dF HB hb;(try clear hb);(try clear hb2);(try clear hk);(try clear hi);obtain ⟨S9,Ta,Tc,Td,Te,Tf,Tg,Ti⟩:=iC nC.out)|((with_reducible refine aW (f:=80) rfl ?_);refine dM (some 22) rfl rfl Try.func80 aR rfl #[.agg #[.int .i64 bP,.int .i64 bQ,.int .i64 bR,.int .i64 bS],.int .i64 a3] rfl jJ ?_;(with_reducible refine (fo.calls bP bQ bR bS a3 He _ A8.out).mono ?_);rintro e w23 ⟨rfl,hb⟩;refine ⟨_,rfl,?_⟩;replace il:=bC il hb;replace jN:=bC jN hb;replace nC:=bC nC hb;replace HB:=dF HB hb;(try clear hb);(try clear hb2);(try clear hk);(try clear hi);obtain ⟨wC,wD,yh,yj,Jl,Jm,Jn,Sn,Sq,wE,wF,yl,ym,Jo,Jp,Jq,Sr,Su⟩:=iI il.out)|((with_reducible refine aW (f:=81) rfl ?_);refine dM (some 30) rfl rfl Try.func81 aR rfl #[.slice A4 l4.length c4,.int .i64 aC] rfl jJ ?_;(with_reducible refine (bM.calls k _ _ l4 aC Gx _ ?dz ?dA W9.out).mono ?_);(case dz=>repeat (first|exact (Kd.bn HR4.out HB.out)|(with_reducible refine Kd.bA ?_ _)|(with_reducible refine Kd.bB ?_ _)|(with_reducible refine Kd.bK ?_)));(case dA=>exact HC4.out);rintro e w' ⟨rfl,⟨nd,rfl⟩⟩;refine ⟨_,rfl,?_⟩;obtain ⟨zk,zl,zm,zn,Cv,Cw,Cx,zo,zq,zt,zu,Cy,Cz,CB⟩:=ko jN.out;obtain ⟨MI,MJ,RI,RJ,MK,ML,RL,RN⟩:=iC nC.out)|((with_reducible refine aW (f:=84) rfl ?_);refine dM (some 41) rfl rfl Try.func84 aR rfl #[.agg #[.int .i64 aj,.int .i64 ak,.int .i64 ax,.int .i64 ay,.int .i64 aJ,.int .i64 aC,.int .i64 aG,.slice dH aN.length dD,.slice dG av.length dE],.agg #[.int .i64 aU,.int .i64 aQ,.int .i64 aZ,.int .i64 bf,.int .i64 bE,.int .i64 bF,.int .i64 bG],.agg #[.int .i64 bP,.int .i64 bQ,.int .i64 bR,.int .i64 bS],.int .i64 a3,.slice A4 l4.length c4] rfl jJ ?_;(with_reducible refine (bT.calls k aj ak ax ay aJ aC aG _ _ aN _ _ av aU aQ aZ bf bE bF bG bP bQ bR bS a3 _ _ l4 arc ard arf _ ?dz ?dA ?dR ?dS ?JZ ?J2 A12.out).mono ?_);(case dz=>repeat (first|exact (Kd.bn gq.out gM)|(with_reducible refine Kd.bA ?_ _)|(with_reducible refine Kd.bB ?_ _)|(with_reducible refine Kd.bK ?_)));(case dA=>exact gG.out);(case dR=>repeat (first|exact (Kd.bn fF.out gM)|(with_reducible refine Kd.bA ?_ _)|(with_reducible refine Kd.bB ?_ _)|(with_reducible refine Kd.bK ?_)));(case dS=>exact gH.out);(case JZ=>repeat (first|exact (Kd.bn HR4.out gM)|(with_reducible refine Kd.bA ?_ _)|(with_reducible refine Kd.bB ?_ _)|(with_reducible refine Kd.bK ?_)));(case J2=>exact HC4.out);rintro e w27 ⟨aJi,rfl,ho0,hb⟩;refine ⟨_,rfl,?_⟩;have arh:=ae.mk (Kd.lH (Kd.KM ho0 (g:=aaq) (o:=.cells #[.int .i64 bP,.int .i64 bQ,.int .i64 bR,.int .i64 bS] 31 (0,0)) iq) (iG gM));replace il:=bC il hb;replace jN:=bC jN hb;replace nC:=bC nC hb;replace HB:=dF HB hb;(try clear hb);(try clear hb2);(try clear hk);(try clear hi);(try clear ho0)))
    go_ret3
    exact ⟨_,lJ,by (with_reducible repeat (first|apply Kd.kK|apply Kd.kv|apply Kd.jo));exact Kd.lv arh.out (fun _ hk=>trivial),gM⟩
   ·rw [if_neg c11] at H
    have IK:(Gx == 0) = false:=beq_eq_false_iff_ne.mpr c11
    have arb:(Gx != 0) = true:=bne_iff_ne.mpr c11
    replace H:=Option.bind_eq_some_iff.mp H
    obtain ⟨Mt,aet,H⟩:=H
    replace H:(some (([]:List (gz)),0,Mt)) = some (r1,r2,r3):=H
    have A28:=ae.mk aet
    clear aet
    simp only [Option.some.injEq,Prod.mk.injEq] at H
    obtain ⟨rfl,rfl,rfl⟩:=H
    go_enter Try.func31,Try.ntmps31
    go_wp2_with (first|((with_reducible refine aA (N:=5) rfl ?_);refine az (by rfl) (N:=5) (by rfl) (cs:=#[.int .i64 aj,.int .i64 ak,.int .i64 ax,.int .i64 ay,.int .i64 aJ,.int .i64 aC,.int .i64 aG,.slice dH aN.length dD,.slice dG av.length dE]) (t:=25) gQ ?_;intro aeH hg w29 hbox hb;have il:=ae.mk (hbox);have aeI:=dn HB hg;have aeJ:=dn HB hg;replace HB:=dF HB hb;clear hb hbox hg)|((with_reducible refine aA (N:=6) rfl ?_);refine az (by rfl) (N:=6) (by rfl) (cs:=#[.int .i64 aU,.int .i64 aQ,.int .i64 aZ,.int .i64 bf,.int .i64 bE,.int .i64 bF,.int .i64 bG]) (t:=29) gQ ?_;intro aeK hg w30 hbox hb;have jN:=ae.mk (hbox);have aeL:=dn HB hg;have aeM:=dn HB hg;have uK:=iE il hg;have uL:=iF il hg;replace il:=bC il hb;replace HB:=dF HB hb;clear hb hbox hg)|((with_reducible refine aA (N:=7) rfl ?_);refine az (by rfl) (N:=7) (by rfl) (cs:=#[.int .i64 bP,.int .i64 bQ,.int .i64 bR,.int .i64 bS]) (t:=31) gQ ?_;intro aaq hg w31 hbox hb;have nC:=ae.mk (hbox);have aeN:=dn HB hg;have aeO:=dn HB hg;have uM:=iE il hg;have uN:=iF il hg;have uO:=iE jN hg;have uP:=iF jN hg;replace il:=bC il hb;replace jN:=bC jN hb;replace HB:=dF HB hb;clear hb hbox hg;have ari:=uK.out;have arj:=uL.out;have aGV:=uM.out;have aGW:=uN.out;obtain ⟨JI,JJ,JK,JL,Np,Nq,Nr,Tj,Tk,JM,JN,JO,JP,Ns,Nt,Nu,Tm,Tn⟩:=iI il.out;have aqQ:=uO.out;have aqR:=uP.out;obtain ⟨SI,SK,SL,SN,ZM,ZN,ZO,SQ,SS,SV,SX,ZP,ZQ,ZR⟩:=ko jN.out)|((with_reducible refine aW (f:=79) rfl ?_);refine dM (some 15) rfl rfl Try.func79 aR rfl #[.agg #[.int .i64 aj,.int .i64 ak,.int .i64 ax,.int .i64 ay,.int .i64 aJ,.int .i64 aC,.int .i64 aG,.slice dH aN.length dD,.slice dG av.length dE],.agg #[.int .i64 aU,.int .i64 aQ,.int .i64 aZ,.int .i64 bf,.int .i64 bE,.int .i64 bF,.int .i64 bG]] rfl jJ ?_;(with_reducible refine (fK.calls k aj ak ax ay aJ aC aG _ _ aN _ _ av aU aQ aZ bf bE bF bG JY _ ?dz ?dA ?dR ?dS A6.out).mono ?_);(case dz=>repeat (first|exact (Kd.bn gq.out HB.out)|(with_reducible refine Kd.bA ?_ _)|(with_reducible refine Kd.bB ?_ _)|(with_reducible refine Kd.bK ?_)));(case dA=>exact gG.out);(case dR=>repeat (first|exact (Kd.bn fF.out HB.out)|(with_reducible refine Kd.bA ?_ _)|(with_reducible refine Kd.bB ?_ _)|(with_reducible refine Kd.bK ?_)));(case dS=>exact gH.out);rintro e w37 ⟨rfl,hb⟩;refine ⟨_,rfl,?_⟩;replace il:=bC il hb;replace jN:=bC jN hb;replace nC:=bC nC hb;replace HB:=dF HB hb;(try clear hb);(try clear hb2);(try clear hk);(try clear hi);obtain ⟨ajd,aje,ajf,ajg,ajh,aji,ajj,ajk⟩:=iC nC.out)|((with_reducible refine aW (f:=80) rfl ?_);refine dM (some 22) rfl rfl Try.func80 aR rfl #[.agg #[.int .i64 bP,.int .i64 bQ,.int .i64 bR,.int .i64 bS],.int .i64 a3] rfl jJ ?_;(with_reducible refine (fo.calls bP bQ bR bS a3 He _ A8.out).mono ?_);rintro e w39 ⟨rfl,hb⟩;refine ⟨_,rfl,?_⟩;replace il:=bC il hb;replace jN:=bC jN hb;replace nC:=bC nC hb;replace HB:=dF HB hb;(try clear hb);(try clear hb2);(try clear hk);(try clear hi);obtain ⟨Tp,Tq,Tt,Tu,aar,aas,aat,ajl,ajm,Tv,Tw,Tx,Ty,aau,aav,aaw,ajn,ajo⟩:=iI il.out)|((with_reducible refine aW (f:=81) rfl ?_);refine dM (some 30) rfl rfl Try.func81 aR rfl #[.slice A4 l4.length c4,.int .i64 aC] rfl jJ ?_;(with_reducible refine (bM.calls k _ _ l4 aC Gx _ ?dz ?dA W9.out).mono ?_);(case dz=>repeat (first|exact (Kd.bn HR4.out HB.out)|(with_reducible refine Kd.bA ?_ _)|(with_reducible refine Kd.bB ?_ _)|(with_reducible refine Kd.bK ?_)));(case dA=>exact HC4.out);rintro e w' ⟨rfl,⟨nd,rfl⟩⟩;refine ⟨_,rfl,?_⟩)|((with_reducible refine aW (f:=81) rfl ?_);refine dM (some 35) rfl rfl Try.func81 aR rfl #[.slice A4 l4.length c4,.int .i64 aC] rfl jJ ?_;(with_reducible refine (bM.calls k _ _ l4 aC Mt _ ?dz ?dA A28.out).mono ?_);(case dz=>repeat (first|exact (Kd.bn HR4.out gM)|(with_reducible refine Kd.bA ?_ _)|(with_reducible refine Kd.bB ?_ _)|(with_reducible refine Kd.bK ?_)));(case dA=>exact HC4.out);rintro e w' ⟨rfl,⟨nd,rfl⟩⟩;refine ⟨_,rfl,?_⟩))
    go_ret3
    exact ⟨_,lJ,acr,gM⟩
  ·rw [if_neg c9] at H
   have U4:(He == 0) = false:=beq_eq_false_iff_ne.mpr c9
   have aDk:(He != 0) = true:=bne_iff_ne.mpr c9
   replace H:=Option.bind_eq_some_iff.mp H
   obtain ⟨Ql,aeP,H⟩:=H
   replace H:(some (([]:List (gz)),0,Ql)) = some (r1,r2,r3):=H
   have A41:=ae.mk aeP
   clear aeP
   simp only [Option.some.injEq,Prod.mk.injEq] at H
   obtain ⟨rfl,rfl,rfl⟩:=H
   go_enter Try.func31,Try.ntmps31
   go_wp2_with (first|((with_reducible refine aA (N:=5) rfl ?_);refine az (by rfl) (N:=5) (by rfl) (cs:=#[.int .i64 aj,.int .i64 ak,.int .i64 ax,.int .i64 ay,.int .i64 aJ,.int .i64 aC,.int .i64 aG,.slice dH aN.length dD,.slice dG av.length dE]) (t:=25) gQ ?_;intro aeH hg w42 hbox hb;have il:=ae.mk (hbox);have aeI:=dn HB hg;have aeJ:=dn HB hg;replace HB:=dF HB hb;clear hb hbox hg)|((with_reducible refine aA (N:=6) rfl ?_);refine az (by rfl) (N:=6) (by rfl) (cs:=#[.int .i64 aU,.int .i64 aQ,.int .i64 aZ,.int .i64 bf,.int .i64 bE,.int .i64 bF,.int .i64 bG]) (t:=29) gQ ?_;intro aeK hg w43 hbox hb;have jN:=ae.mk (hbox);have aeL:=dn HB hg;have aeM:=dn HB hg;have uK:=iE il hg;have uL:=iF il hg;replace il:=bC il hb;replace HB:=dF HB hb;clear hb hbox hg)|((with_reducible refine aA (N:=7) rfl ?_);refine az (by rfl) (N:=7) (by rfl) (cs:=#[.int .i64 bP,.int .i64 bQ,.int .i64 bR,.int .i64 bS]) (t:=31) gQ ?_;intro aaq hg w44 hbox hb;have nC:=ae.mk (hbox);have aeN:=dn HB hg;have aeO:=dn HB hg;have uM:=iE il hg;have uN:=iF il hg;have uO:=iE jN hg;have uP:=iF jN hg;replace il:=bC il hb;replace jN:=bC jN hb;replace HB:=dF HB hb;clear hb hbox hg;have aeu:=uK.out;have aev:=uL.out;have aew:=uM.out;have aex:=uN.out;obtain ⟨Tz,TA,TB,TC,aax,aay,aaz,ajp,ajq,TD,TE,TF,TG,aaA,aaB,aaC,ajr,ajs⟩:=iI il.out;have aey:=uO.out;have aez:=uP.out;obtain ⟨Cj,Ck,Cm,Cn,ET,EU,EW,Co,Cq,Cr,Cs,EX,EY,EZ⟩:=ko jN.out)|((with_reducible refine aW (f:=79) rfl ?_);refine dM (some 15) rfl rfl Try.func79 aR rfl #[.agg #[.int .i64 aj,.int .i64 ak,.int .i64 ax,.int .i64 ay,.int .i64 aJ,.int .i64 aC,.int .i64 aG,.slice dH aN.length dD,.slice dG av.length dE],.agg #[.int .i64 aU,.int .i64 aQ,.int .i64 aZ,.int .i64 bf,.int .i64 bE,.int .i64 bF,.int .i64 bG]] rfl jJ ?_;(with_reducible refine (fK.calls k aj ak ax ay aJ aC aG _ _ aN _ _ av aU aQ aZ bf bE bF bG JY _ ?dz ?dA ?dR ?dS A6.out).mono ?_);(case dz=>repeat (first|exact (Kd.bn gq.out HB.out)|(with_reducible refine Kd.bA ?_ _)|(with_reducible refine Kd.bB ?_ _)|(with_reducible refine Kd.bK ?_)));(case dA=>exact gG.out);(case dR=>repeat (first|exact (Kd.bn fF.out HB.out)|(with_reducible refine Kd.bA ?_ _)|(with_reducible refine Kd.bB ?_ _)|(with_reducible refine Kd.bK ?_)));(case dS=>exact gH.out);rintro e w50 ⟨rfl,hb⟩;refine ⟨_,rfl,?_⟩;replace il:=bC il hb;replace jN:=bC jN hb;replace nC:=bC nC hb;replace HB:=dF HB hb;(try clear hb);(try clear hb2);(try clear hk);(try clear hi);obtain ⟨Fh,Fj,Fp,Fq,Fs,Fu,Fv,Fw⟩:=iC nC.out)|((with_reducible refine aW (f:=80) rfl ?_);refine dM (some 22) rfl rfl Try.func80 aR rfl #[.agg #[.int .i64 bP,.int .i64 bQ,.int .i64 bR,.int .i64 bS],.int .i64 a3] rfl jJ ?_;(with_reducible refine (fo.calls bP bQ bR bS a3 He _ A8.out).mono ?_);rintro e w52 ⟨rfl,hb⟩;refine ⟨_,rfl,?_⟩;replace il:=bC il hb;replace jN:=bC jN hb;replace nC:=bC nC hb;replace HB:=dF HB hb;(try clear hb);(try clear hb2);(try clear hk);(try clear hi);obtain ⟨E5,E8,E9,Fa,Fb,Fe,Ff,Fg⟩:=iC nC.out)|((with_reducible refine aW (f:=80) rfl ?_);refine dM (some 26) rfl rfl Try.func80 aR rfl #[.agg #[.int .i64 bP,.int .i64 bQ,.int .i64 bR,.int .i64 bS],.int .i64 a3] rfl jJ ?_;(with_reducible refine (fo.calls bP bQ bR bS a3 Ql _ A41.out).mono ?_);rintro e w54 ⟨rfl,hb⟩;refine ⟨_,rfl,?_⟩;replace il:=bC il hb;replace jN:=bC jN hb;replace nC:=bC nC hb;replace HB:=dF HB hb;(try clear hb);(try clear hb2);(try clear hk);(try clear hi)))
   go_ret3
   exact ⟨_,lJ,acr,gM⟩
 ·rw [if_neg c7] at H
  have WX:(JY == 0) = false:=beq_eq_false_iff_ne.mpr c7
  have aDj:(JY != 0) = true:=bne_iff_ne.mpr c7
  replace H:=Option.bind_eq_some_iff.mp H
  obtain ⟨VB,ark,H⟩:=H
  replace H:(some (([]:List (gz)),0,VB)) = some (r1,r2,r3):=H
  have A55:=ae.mk ark
  clear ark
  simp only [Option.some.injEq,Prod.mk.injEq] at H
  obtain ⟨rfl,rfl,rfl⟩:=H
  go_enter Try.func31,Try.ntmps31
  go_wp2_with (first|((with_reducible refine aA (N:=5) rfl ?_);refine az (by rfl) (N:=5) (by rfl) (cs:=#[.int .i64 aj,.int .i64 ak,.int .i64 ax,.int .i64 ay,.int .i64 aJ,.int .i64 aC,.int .i64 aG,.slice dH aN.length dD,.slice dG av.length dE]) (t:=25) gQ ?_;intro aeH hg w56 hbox hb;have il:=ae.mk (hbox);have aeI:=dn HB hg;have aeJ:=dn HB hg;replace HB:=dF HB hb;clear hb hbox hg)|((with_reducible refine aA (N:=6) rfl ?_);refine az (by rfl) (N:=6) (by rfl) (cs:=#[.int .i64 aU,.int .i64 aQ,.int .i64 aZ,.int .i64 bf,.int .i64 bE,.int .i64 bF,.int .i64 bG]) (t:=29) gQ ?_;intro aeK hg w57 hbox hb;have jN:=ae.mk (hbox);have aeL:=dn HB hg;have aeM:=dn HB hg;have uK:=iE il hg;have uL:=iF il hg;replace il:=bC il hb;replace HB:=dF HB hb;clear hb hbox hg)|((with_reducible refine aA (N:=7) rfl ?_);refine az (by rfl) (N:=7) (by rfl) (cs:=#[.int .i64 bP,.int .i64 bQ,.int .i64 bR,.int .i64 bS]) (t:=31) gQ ?_;intro aaq hg w58 hbox hb;have nC:=ae.mk (hbox);have aeN:=dn HB hg;have aeO:=dn HB hg;have uM:=iE il hg;have uN:=iF il hg;have uO:=iE jN hg;have uP:=iF jN hg;replace il:=bC il hb;replace jN:=bC jN hb;replace HB:=dF HB hb;clear hb hbox hg;have aqg:=uK.out;have aqh:=uL.out;have aqi:=uM.out;have aqj:=uN.out;obtain ⟨Zb,Zc,Zd,Ze,aze,azf,azg,azh,azi,Zf,Zg,Zh,Zi,azj,azk,azl,azm,azn⟩:=iI il.out;have ak8:=uO.out;have ak9:=uP.out;obtain ⟨aiD,aiE,aiF,aiG,azo,azp,azq,aiH,aiI,aiJ,aiK,azr,azs,azt⟩:=ko jN.out)|((with_reducible refine aW (f:=79) rfl ?_);refine dM (some 15) rfl rfl Try.func79 aR rfl #[.agg #[.int .i64 aj,.int .i64 ak,.int .i64 ax,.int .i64 ay,.int .i64 aJ,.int .i64 aC,.int .i64 aG,.slice dH aN.length dD,.slice dG av.length dE],.agg #[.int .i64 aU,.int .i64 aQ,.int .i64 aZ,.int .i64 bf,.int .i64 bE,.int .i64 bF,.int .i64 bG]] rfl jJ ?_;(with_reducible refine (fK.calls k aj ak ax ay aJ aC aG _ _ aN _ _ av aU aQ aZ bf bE bF bG JY _ ?dz ?dA ?dR ?dS A6.out).mono ?_);(case dz=>repeat (first|exact (Kd.bn gq.out HB.out)|(with_reducible refine Kd.bA ?_ _)|(with_reducible refine Kd.bB ?_ _)|(with_reducible refine Kd.bK ?_)));(case dA=>exact gG.out);(case dR=>repeat (first|exact (Kd.bn fF.out HB.out)|(with_reducible refine Kd.bA ?_ _)|(with_reducible refine Kd.bB ?_ _)|(with_reducible refine Kd.bK ?_)));(case dS=>exact gH.out);rintro e w64 ⟨rfl,hb⟩;refine ⟨_,rfl,?_⟩;replace il:=bC il hb;replace jN:=bC jN hb;replace nC:=bC nC hb;replace HB:=dF HB hb;(try clear hb);(try clear hb2);(try clear hk);(try clear hi);obtain ⟨aha,ahb,ahc,ahd,ahe,ahf,ahg,ahh,ahi,ahj,ahk,ahl,ahm,ahn,aho,ahp,ahq,ahr⟩:=iI il.out;obtain ⟨azu,azv,azw,azx,azy,azz,azA,azB,azC,azD,azE,azF,azG,azH⟩:=ko jN.out)|((with_reducible refine aW (f:=79) rfl ?_);refine dM (some 19) rfl rfl Try.func79 aR rfl #[.agg #[.int .i64 aj,.int .i64 ak,.int .i64 ax,.int .i64 ay,.int .i64 aJ,.int .i64 aC,.int .i64 aG,.slice dH aN.length dD,.slice dG av.length dE],.agg #[.int .i64 aU,.int .i64 aQ,.int .i64 aZ,.int .i64 bf,.int .i64 bE,.int .i64 bF,.int .i64 bG]] rfl jJ ?_;(with_reducible refine (fK.calls k aj ak ax ay aJ aC aG _ _ aN _ _ av aU aQ aZ bf bE bF bG VB _ ?dz ?dA ?dR ?dS A55.out).mono ?_);(case dz=>repeat (first|exact (Kd.bn gq.out HB.out)|(with_reducible refine Kd.bA ?_ _)|(with_reducible refine Kd.bB ?_ _)|(with_reducible refine Kd.bK ?_)));(case dA=>exact gG.out);(case dR=>repeat (first|exact (Kd.bn fF.out HB.out)|(with_reducible refine Kd.bA ?_ _)|(with_reducible refine Kd.bB ?_ _)|(with_reducible refine Kd.bK ?_)));(case dS=>exact gH.out);rintro e w67 ⟨rfl,hb⟩;refine ⟨_,rfl,?_⟩;replace il:=bC il hb;replace jN:=bC jN hb;replace nC:=bC nC hb;replace HB:=dF HB hb;(try clear hb);(try clear hb2);(try clear hk);(try clear hi)))
  go_ret3
  exact ⟨_,lJ,acr,gM⟩
end Go.Proofs.Ytmhaiihjfgfaoaa.Pr
end
section
namespace Go.Proofs.Ytmhaiihjfgfaoaa.Pr
open Go.RowKit Go.Proofs.YtmhaiihjfgfaoaaW.PrintWords Go.Proofs.YtmhaiihjfgfaoaaW.PrintLast Go.Proofs.YtmhaiihjfgfaoaaW.PrintMore
attribute [local go_sem] cz cB dK dL cK
set_option linter.unusedVariables false
set_option linter.unusedSimpArgs false
def dI.f (aj:Int) (ak:Int) (a1:Int):Option (Int):=some (wrap64 (aj+(wrap64 (Int.tdiv (wrap64 ((wrap64 (ak - aj))*(wrap64 (a1)))) 65535))))
set_option maxHeartbeats 8000000 in
set_option maxRecDepth 100000 in
theorem dI.calls (aj:Int) (ak:Int) (a1:Int) (r:Int) (w:World) (h:dI.f aj ak a1 = some r):
 Calls Try.prog 33 #[.agg #[.int .i64 aj,.int .i64 ak],.int .u16 a1] w fun e w'=>e = .returned (.int .i64 r)∧Below w.heap.size w w':=by
 have pK:=Try.underlying27
 have HB:=ae.mk (Below.refl w.heap.size w)
 have H:(some (wrap64 (aj+(wrap64 (Int.tdiv (wrap64 ((wrap64 (ak - aj))*(wrap64 (a1)))) 65535))))) = some r:=h
 clear h
 obtain rfl:=Option.some.inj H
 go_enter Try.func33,Try.ntmps33
 go_wp2_with (first|((with_reducible refine aA (N:=2) rfl ?_);refine az (by rfl) (N:=2) (by rfl) (cs:=#[.int .i64 aj,.int .i64 ak]) (t:=27) gQ ?_;intro aGX hg w3 hbox hb;have arl:=ae.mk (hbox);have aGY:=dn HB hg;have aGZ:=dn HB hg;replace HB:=dF HB hb;clear hb hbox hg;obtain ⟨TH,TI,TJ,TK⟩:=nE arl.out))
 go_ret
 exact ⟨lJ,gM⟩
end Go.Proofs.Ytmhaiihjfgfaoaa.Pr
end
section
namespace Go.Proofs.Ytmhaiihjfgfaoaa.Pr
open Go.RowKit Go.Proofs.YtmhaiihjfgfaoaaW.PrintWords Go.Proofs.YtmhaiihjfgfaoaaW.PrintLast Go.Proofs.YtmhaiihjfgfaoaaW.PrintMore
attribute [local go_sem] cz cB dK dL cK
set_option linter.unusedVariables false
set_option linter.unusedSimpArgs false
def fP.f (l0:List Int) (a1:Int):Option (Int):=if a1 < (l0.length:Int) then (if 0≤a1 then (some (rd l0 a1)) else (none)) else (some 0)
set_option maxHeartbeats 8000000 in
set_option maxRecDepth 100000 in
theorem fP.calls (A0:Option Addr) (c0:Nat) (l0:List Int) (a1:Int) (r:Int) (w:World) (hr0:Kd.C (Kd.int .u16) w A0 l0.length l0) (hc0:l0.length≤c0) (h:fP.f l0 a1 = some r):
 Calls Try.prog 35 #[.slice A0 l0.length c0,.int .i64 a1] w fun e w'=>e = .returned (.int .u16 r)∧qi w w':=by
 have GX:=ae.mk hr0
 have HC0:=ae.mk hc0
 clear hr0 hc0
 have H:(if a1 < (l0.length:Int) then (if 0≤a1 then (some (rd l0 a1)) else (none)) else (some 0)) = some r:=h
 clear h
 by_cases c3:a1 < (l0.length:Int)
 ·rw [if_pos c3] at H
  have Db:decide (a1 < (l0.length:Int)) = true:=decide_eq_true c3
  clear c3
  by_cases c4:0≤a1
  ·rw [if_pos c4] at H
   have rW:decide (0≤a1) = true:=decide_eq_true c4
   clear c4
   obtain rfl:=Option.some.inj H
   have anq:0≤(a1:Int):=of_decide_eq_true lX
   have anr:a1 < (l0.length:Int):=of_decide_eq_true lX
   obtain ⟨aG0,aDl,azI⟩:=Kd.GL GX.out a1 anq anr
   cases aDl
   replace anq:=eq_true anq
   replace anr:=eq_true anr
   go_enter Try.func35,Try.ntmps35
   go_wp2
   go_ret
   exact ⟨nI,R4⟩
  ·rw [if_neg c4] at H
   exact absurd H (by simp)
 ·rw [if_neg c3] at H
  have Db:decide (a1 < (l0.length:Int)) = false:=decide_eq_false c3
  clear c3
  obtain rfl:=Option.some.inj H
  go_enter Try.func35,Try.ntmps35
  go_wp2
  go_ret
  exact ⟨nI,R4⟩
end Go.Proofs.Ytmhaiihjfgfaoaa.Pr
end
section
namespace Go.Proofs.Ytmhaiihjfgfaoaa.Pr
open Go.RowKit Go.Proofs.YtmhaiihjfgfaoaaW.PrintWords Go.Proofs.YtmhaiihjfgfaoaaW.PrintLast Go.Proofs.YtmhaiihjfgfaoaaW.PrintMore
attribute [local go_sem] cz cB dK dL cK
set_option linter.unusedVariables false
set_option linter.unusedSimpArgs false
def isobathlaw03_holds.f (aj:Int) (ak:Int) (ax:Int) (ay:Int) (a1:Int) (a2:Int):Option (Bool):=if (wrap64 (aj*4000000))≤a1 then (if a1≤(wrap64 (ak*4000000)) then (if (wrap64 (ax*4000000))≤a2 then (some (decide (a2≤(wrap64 (ay*4000000))))) else (some false)) else (some false)) else (some false)
set_option maxHeartbeats 8000000 in
set_option maxRecDepth 100000 in
theorem isobathlaw03_holds.calls (aj:Int) (ak:Int) (ax:Int) (ay:Int) (a1:Int) (a2:Int) (r:Bool) (w:World) (h:isobathlaw03_holds.f aj ak ax ay a1 a2 = some r):
 Calls Try.prog 36 #[.agg #[.int .i64 aj,.int .i64 ak,.int .i64 ax,.int .i64 ay],.int .i64 a1,.int .i64 a2] w fun e w'=>e = .returned (.bool r)∧Below w.heap.size w w':=by
 have qP:=Try.underlying31
 have HB:=ae.mk (Below.refl w.heap.size w)
 have H:(if (wrap64 (aj*4000000))≤a1 then (if a1≤(wrap64 (ak*4000000)) then (if (wrap64 (ax*4000000))≤a2 then (some (decide (a2≤(wrap64 (ay*4000000))))) else (some false)) else (some false)) else (some false)) = some r:=h
 clear h
 by_cases c4:(wrap64 (aj*4000000))≤a1
 ·rw [if_pos c4] at H
  have rW:decide ((wrap64 (aj*4000000))≤a1) = true:=decide_eq_true c4
  clear c4
  by_cases c5:a1≤(wrap64 (ak*4000000))
  ·rw [if_pos c5] at H
   have Dc:decide (a1≤(wrap64 (ak*4000000))) = true:=decide_eq_true c5
   clear c5
   by_cases c6:(wrap64 (ax*4000000))≤a2
   ·rw [if_pos c6] at H
    have Dp:decide ((wrap64 (ax*4000000))≤a2) = true:=decide_eq_true c6
    clear c6
    obtain rfl:=Option.some.inj H
    go_enter Try.func36,Try.ntmps36
    go_wp2_with (first|((with_reducible refine aA (N:=3) rfl ?_);refine az (by rfl) (N:=3) (by rfl) (cs:=#[.int .i64 aj,.int .i64 ak,.int .i64 ax,.int .i64 ay]) (t:=31) gQ ?_;intro aeQ hg w7 hbox hb;have Px:=ae.mk (hbox);have aeR:=dn HB hg;have aeS:=dn HB hg;replace HB:=dF HB hb;clear hb hbox hg;obtain ⟨GQ,GR,Ry,Rz,GU,GV,RA,RB⟩:=iC Px.out))
    go_ret
    exact ⟨lJ,gM⟩
   ·rw [if_neg c6] at H
    have Dp:decide ((wrap64 (ax*4000000))≤a2) = false:=decide_eq_false c6
    clear c6
    obtain rfl:=Option.some.inj H
    go_enter Try.func36,Try.ntmps36
    go_wp2_with (first|((with_reducible refine aA (N:=3) rfl ?_);refine az (by rfl) (N:=3) (by rfl) (cs:=#[.int .i64 aj,.int .i64 ak,.int .i64 ax,.int .i64 ay]) (t:=31) gQ ?_;intro aeQ hg w9 hbox hb;have Px:=ae.mk (hbox);have aeR:=dn HB hg;have aeS:=dn HB hg;replace HB:=dF HB hb;clear hb hbox hg;obtain ⟨wL,wM,Jc,Jd,wN,wO,Je,Jf⟩:=iC Px.out))
    go_ret
    exact ⟨lJ,gM⟩
  ·rw [if_neg c5] at H
   have Dc:decide (a1≤(wrap64 (ak*4000000))) = false:=decide_eq_false c5
   clear c5
   obtain rfl:=Option.some.inj H
   go_enter Try.func36,Try.ntmps36
   go_wp2_with (first|((with_reducible refine aA (N:=3) rfl ?_);refine az (by rfl) (N:=3) (by rfl) (cs:=#[.int .i64 aj,.int .i64 ak,.int .i64 ax,.int .i64 ay]) (t:=31) gQ ?_;intro aeQ hg w11 hbox hb;have Px:=ae.mk (hbox);have aeR:=dn HB hg;have aeS:=dn HB hg;replace HB:=dF HB hb;clear hb hbox hg;obtain ⟨uS,uT,Ij,Ik,uU,uV,Il,Im⟩:=iC Px.out))
   go_ret
   exact ⟨lJ,gM⟩
 ·rw [if_neg c4] at H
  have rW:decide ((wrap64 (aj*4000000))≤a1) = false:=decide_eq_false c4
  clear c4
  obtain rfl:=Option.some.inj H
  go_enter Try.func36,Try.ntmps36
  go_wp2_with (first|((with_reducible refine aA (N:=3) rfl ?_);refine az (by rfl) (N:=3) (by rfl) (cs:=#[.int .i64 aj,.int .i64 ak,.int .i64 ax,.int .i64 ay]) (t:=31) gQ ?_;intro aeQ hg w13 hbox hb;have Px:=ae.mk (hbox);have aeR:=dn HB hg;have aeS:=dn HB hg;replace HB:=dF HB hb;clear hb hbox hg;obtain ⟨wm,wo,DR,DT,wu,wy,DU,DV⟩:=iC Px.out))
  go_ret
  exact ⟨lJ,gM⟩
end Go.Proofs.Ytmhaiihjfgfaoaa.Pr
end
