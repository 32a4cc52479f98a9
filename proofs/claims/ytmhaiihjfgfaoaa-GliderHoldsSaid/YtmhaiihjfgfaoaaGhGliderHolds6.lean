import Derived.Test.YtmhaiihjfgfaoaaGhGliderHolds3
import Derived.Test.YtmhaiihjfgfaoaaGhGliderHolds4
import Derived.Test.YtmhaiihjfgfaoaaGhGliderHolds5
section
namespace Go.Proofs.Ytmhaiihjfgfaoaa.Pr
open Go.RowKit Go.Proofs.YtmhaiihjfgfaoaaW.PrintWords Go.Proofs.YtmhaiihjfgfaoaaW.PrintLast Go.Proofs.YtmhaiihjfgfaoaaW.PrintMore
attribute [local go_sem] cz cB dK dL cK
set_option linter.unusedVariables false
set_option linter.unusedSimpArgs false
def jE.f (k:Nat) (aj:Int) (ak:Int) (ax:Int) (ay:Int) (aJ:Int) (aC:Int) (aG:Int) (aN:List Bool) (av:List (nU)) (aU:Int) (aQ:Int) (aZ:Int) (bf:Int) (bE:Int) (bF:Int) (bG:Int) (bP:Int) (bQ:Int) (bR:Int) (bS:Int) (a3:Int):Option (Bool):=(gF.f aj ak ax ay aJ aC aG aN av).bind fun t125=>(if t125 = true then (some false) else ((ai.f k aj ak ax ay aJ aC aG aN av).bind fun t126=>(if t126 = 0 then ((cO.f aU aQ aZ bf bE bF bG).bind fun t127=>(if t127 = 0 then ((dC.f bP bQ bR bS).bind fun t128=>(if t128 = true then (if a3 ≥ 0 then (some (decide (a3≤1073741824))) else (some false)) else (some false))) else (some false))) else (some false))))
set_option maxHeartbeats 8000000 in
set_option maxRecDepth 100000 in
theorem jE.calls (k:Nat) (aj:Int) (ak:Int) (ax:Int) (ay:Int) (aJ:Int) (aC:Int) (aG:Int) (dH:Option Addr) (dD:Nat) (aN:List Bool) (dG:Option Addr) (dE:Nat) (av:List (nU)) (aU:Int) (aQ:Int) (aZ:Int) (bf:Int) (bE:Int) (bF:Int) (bG:Int) (bP:Int) (bQ:Int) (bR:Int) (bS:Int) (a3:Int) (r:Bool) (w:World) (iW:Kd.C Kd.bool w dH aN.length aN) (iX:aN.length≤dD) (iY:Kd.C CY w dG av.length av) (iZ:av.length≤dE) (h:jE.f k aj ak ax ay aJ aC aG aN av aU aQ aZ bf bE bF bG bP bQ bR bS a3 = some r):
 Calls Try.prog 18 #[.agg #[.int .i64 aj,.int .i64 ak,.int .i64 ax,.int .i64 ay,.int .i64 aJ,.int .i64 aC,.int .i64 aG,.slice dH aN.length dD,.slice dG av.length dE],.agg #[.int .i64 aU,.int .i64 aQ,.int .i64 aZ,.int .i64 bf,.int .i64 bE,.int .i64 bF,.int .i64 bG],.agg #[.int .i64 bP,.int .i64 bQ,.int .i64 bR,.int .i64 bS],.int .i64 a3] w fun e w'=>e = .returned (.bool r)∧Below w.heap.size w w':=by
 have xE:=Try.underlying25
 have BL:=Try.underlying29
 have qP:=Try.underlying31
 have gq:=ae.mk iW
 have gG:=ae.mk iX
 clear iW iX
 have fF:=ae.mk iY
 have gH:=ae.mk iZ
 clear iY iZ
 have HB:=ae.mk (Below.refl w.heap.size w)
 have H:((gF.f aj ak ax ay aJ aC aG aN av).bind fun t125=>(if t125 = true then (some false) else ((ai.f k aj ak ax ay aJ aC aG aN av).bind fun t126=>(if t126 = 0 then ((cO.f aU aQ aZ bf bE bF bG).bind fun t127=>(if t127 = 0 then ((dC.f bP bQ bR bS).bind fun t128=>(if t128 = true then (if a3 ≥ 0 then (some (decide (a3≤1073741824))) else (some false)) else (some false))) else (some false))) else (some false))))) = some r:=h
 clear h
 replace H:=Option.bind_eq_some_iff.mp H
 obtain ⟨t125,OX,H⟩:=H
 replace H:(if t125 = true then (some false) else ((ai.f k aj ak ax ay aJ aC aG aN av).bind fun t126=>(if t126 = 0 then ((cO.f aU aQ aZ bf bE bF bG).bind fun t127=>(if t127 = 0 then ((dC.f bP bQ bR bS).bind fun t128=>(if t128 = true then (if a3 ≥ 0 then (some (decide (a3≤1073741824))) else (some false)) else (some false))) else (some false))) else (some false)))) = some r:=H
 have A5:=ae.mk OX
 clear OX
 by_cases c6:t125 = true
 ·subst c6
  have H1:(some false) = some r:=by rw [if_pos rfl] at H;exact H
  clear H
  have H:=H1
  clear H1
  obtain rfl:=Option.some.inj H
  go_enter Try.func18,Try.ntmps18
  go_wp2_with (first|((with_reducible refine aA (N:=4) rfl ?_);refine az (by rfl) (N:=4) (by rfl) (cs:=#[.int .i64 aj,.int .i64 ak,.int .i64 ax,.int .i64 ay,.int .i64 aJ,.int .i64 aC,.int .i64 aG,.slice dH aN.length dD,.slice dG av.length dE]) (t:=25) gQ ?_;intro V4 hg w7 hbox hb;have eD:=ae.mk (hbox);have V5:=dn HB hg;have V6:=dn HB hg;replace HB:=dF HB hb;clear hb hbox hg)|((with_reducible refine aA (N:=5) rfl ?_);refine az (by rfl) (N:=5) (by rfl) (cs:=#[.int .i64 aU,.int .i64 aQ,.int .i64 aZ,.int .i64 bf,.int .i64 bE,.int .i64 bF,.int .i64 bG]) (t:=29) gQ ?_;intro V7 hg w8 hbox hb;have gD:=ae.mk (hbox);have V8:=dn HB hg;have V9:=dn HB hg;have nQ:=iE eD hg;have nR:=iF eD hg;replace eD:=bC eD hb;replace HB:=dF HB hb;clear hb hbox hg)|((with_reducible refine aA (N:=6) rfl ?_);refine az (by rfl) (N:=6) (by rfl) (cs:=#[.int .i64 bP,.int .i64 bQ,.int .i64 bR,.int .i64 bS]) (t:=31) gQ ?_;intro Wd hg w9 hbox hb;have jP:=ae.mk (hbox);have We:=dn HB hg;have Wh:=dn HB hg;have nS:=iE eD hg;have nT:=iF eD hg;have qb:=iE gD hg;have qc:=iF gD hg;replace eD:=bC eD hb;replace gD:=bC gD hb;replace HB:=dF HB hb;clear hb hbox hg;have ac3:=nQ.out;have ac4:=nR.out;have Us:=nS.out;have Ut:=nT.out;obtain ⟨uS,uT,Ij,Ik,YA,YB,YC,aAQ,aAR,uU,uV,Il,Im,YD,YE,YF,aAS,aAT⟩:=iI eD.out)|((with_reducible refine aW (f:=22) rfl ?_);refine dM (some 10) rfl rfl Try.func22 aR rfl #[.agg #[.int .i64 aj,.int .i64 ak,.int .i64 ax,.int .i64 ay,.int .i64 aJ,.int .i64 aC,.int .i64 aG,.slice dH aN.length dD,.slice dG av.length dE]] rfl jJ ?_;(with_reducible refine (gF.calls aj ak ax ay aJ aC aG _ _ aN _ _ av true _ ?dz ?dA ?dR ?dS A5.out).mono ?_);(case dz=>repeat (first|exact (Kd.bn gq.out HB.out)|(with_reducible refine Kd.bA ?_ _)|(with_reducible refine Kd.bB ?_ _)|(with_reducible refine Kd.bK ?_)));(case dA=>exact gG.out);(case dR=>repeat (first|exact (Kd.bn fF.out HB.out)|(with_reducible refine Kd.bA ?_ _)|(with_reducible refine Kd.bB ?_ _)|(with_reducible refine Kd.bK ?_)));(case dS=>exact gH.out);rintro e w13 ⟨rfl,hb⟩;refine ⟨_,rfl,?_⟩;replace eD:=bC eD hb;replace gD:=bC gD hb;replace jP:=bC jP hb;replace HB:=dF HB hb;(try clear hb);(try clear hb2);(try clear hk);(try clear hi)))
  go_ret
  exact ⟨lJ,gM⟩
 ·replace c6:=Bool.eq_false_iff.mpr c6
  subst c6
  have H1:((ai.f k aj ak ax ay aJ aC aG aN av).bind fun t126=>(if t126 = 0 then ((cO.f aU aQ aZ bf bE bF bG).bind fun t127=>(if t127 = 0 then ((dC.f bP bQ bR bS).bind fun t128=>(if t128 = true then (if a3 ≥ 0 then (some (decide (a3≤1073741824))) else (some false)) else (some false))) else (some false))) else (some false))) = some r:=by rw [if_neg (show ¬ (false = true) by decide)] at H;exact H
  clear H
  have H:=H1
  clear H1
  replace H:=Option.bind_eq_some_iff.mp H
  obtain ⟨t126,Vv,H⟩:=H
  replace H:(if t126 = 0 then ((cO.f aU aQ aZ bf bE bF bG).bind fun t127=>(if t127 = 0 then ((dC.f bP bQ bR bS).bind fun t128=>(if t128 = true then (if a3 ≥ 0 then (some (decide (a3≤1073741824))) else (some false)) else (some false))) else (some false))) else (some false)) = some r:=H
  have ZL:=ae.mk Vv
  clear Vv
  by_cases c15:t126 = 0
  ·rw [if_pos c15] at H
   have auj:(t126 == 0) = true:=beq_iff_eq.mpr c15
   have auk:(t126 != 0) = false:=bne_eq_false_iff_eq.mpr c15
   clear c15
   replace H:=Option.bind_eq_some_iff.mp H
   obtain ⟨t127,afo,H⟩:=H
   replace H:(if t127 = 0 then ((dC.f bP bQ bR bS).bind fun t128=>(if t128 = true then (if a3 ≥ 0 then (some (decide (a3≤1073741824))) else (some false)) else (some false))) else (some false)) = some r:=H
   have A16:=ae.mk afo
   clear afo
   by_cases c17:t127 = 0
   ·rw [if_pos c17] at H
    have adD:(t127 == 0) = true:=beq_iff_eq.mpr c17
    have aul:(t127 != 0) = false:=bne_eq_false_iff_eq.mpr c17
    clear c17
    replace H:=Option.bind_eq_some_iff.mp H
    obtain ⟨t128,aum,H⟩:=H
    replace H:(if t128 = true then (if a3 ≥ 0 then (some (decide (a3≤1073741824))) else (some false)) else (some false)) = some r:=H
    have A18:=ae.mk aum
    clear aum
    by_cases c19:t128 = true
    ·subst c19
     have H1:(if a3 ≥ 0 then (some (decide (a3≤1073741824))) else (some false)) = some r:=by rw [if_pos rfl] at H;exact H
     clear H
     have H:=H1
     clear H1
     by_cases c20:a3 ≥ 0
     ·rw [if_pos c20] at H
      have Q6:decide (0≤a3) = true:=decide_eq_true c20
      clear c20
      obtain rfl:=Option.some.inj H
      go_enter Try.func18,Try.ntmps18
      go_wp2_with (first|((with_reducible refine aA (N:=4) rfl ?_);refine az (by rfl) (N:=4) (by rfl) (cs:=#[.int .i64 aj,.int .i64 ak,.int .i64 ax,.int .i64 ay,.int .i64 aJ,.int .i64 aC,.int .i64 aG,.slice dH aN.length dD,.slice dG av.length dE]) (t:=25) gQ ?_;intro V4 hg w21 hbox hb;have eD:=ae.mk (hbox);have V5:=dn HB hg;have V6:=dn HB hg;replace HB:=dF HB hb;clear hb hbox hg)|((with_reducible refine aA (N:=5) rfl ?_);refine az (by rfl) (N:=5) (by rfl) (cs:=#[.int .i64 aU,.int .i64 aQ,.int .i64 aZ,.int .i64 bf,.int .i64 bE,.int .i64 bF,.int .i64 bG]) (t:=29) gQ ?_;intro V7 hg w22 hbox hb;have gD:=ae.mk (hbox);have V8:=dn HB hg;have V9:=dn HB hg;have nQ:=iE eD hg;have nR:=iF eD hg;replace eD:=bC eD hb;replace HB:=dF HB hb;clear hb hbox hg)|((with_reducible refine aA (N:=6) rfl ?_);refine az (by rfl) (N:=6) (by rfl) (cs:=#[.int .i64 bP,.int .i64 bQ,.int .i64 bR,.int .i64 bS]) (t:=31) gQ ?_;intro Wd hg w23 hbox hb;have jP:=ae.mk (hbox);have We:=dn HB hg;have Wh:=dn HB hg;have nS:=iE eD hg;have nT:=iF eD hg;have qb:=iE gD hg;have qc:=iF gD hg;replace eD:=bC eD hb;replace gD:=bC gD hb;replace HB:=dF HB hb;clear hb hbox hg;have alg:=nQ.out;have alh:=nR.out;have ad5:=nS.out;have ad6:=nT.out;obtain ⟨MI,MJ,RI,RJ,agv,agw,agx,aAU,aAV,MK,ML,RL,RN,agy,agz,agA,aAW,aAX⟩:=iI eD.out)|((with_reducible refine aW (f:=22) rfl ?_);refine dM (some 10) rfl rfl Try.func22 aR rfl #[.agg #[.int .i64 aj,.int .i64 ak,.int .i64 ax,.int .i64 ay,.int .i64 aJ,.int .i64 aC,.int .i64 aG,.slice dH aN.length dD,.slice dG av.length dE]] rfl jJ ?_;(with_reducible refine (gF.calls aj ak ax ay aJ aC aG _ _ aN _ _ av false _ ?dz ?dA ?dR ?dS A5.out).mono ?_);(case dz=>repeat (first|exact (Kd.bn gq.out HB.out)|(with_reducible refine Kd.bA ?_ _)|(with_reducible refine Kd.bB ?_ _)|(with_reducible refine Kd.bK ?_)));(case dA=>exact gG.out);(case dR=>repeat (first|exact (Kd.bn fF.out HB.out)|(with_reducible refine Kd.bA ?_ _)|(with_reducible refine Kd.bB ?_ _)|(with_reducible refine Kd.bK ?_)));(case dS=>exact gH.out);rintro e w27 ⟨rfl,hb⟩;refine ⟨_,rfl,?_⟩;replace eD:=bC eD hb;replace gD:=bC gD hb;replace jP:=bC jP hb;replace HB:=dF HB hb;(try clear hb);(try clear hb2);(try clear hk);(try clear hi);obtain ⟨zw,zx,zy,zz,FE,FH,FI,FJ,FL,zA,zB,zC,zD,FM,FN,FO,FP,FQ⟩:=iI eD.out)|(go_at_call 26;(with_reducible refine (ai.calls k aj ak ax ay aJ aC aG _ _ aN _ _ av t126 _ ?dz ?dA ?dR ?dS ZL.out).mono ?_);(case dz=>repeat (first|exact (Kd.bn gq.out HB.out)|(with_reducible refine Kd.bA ?_ _)|(with_reducible refine Kd.bB ?_ _)|(with_reducible refine Kd.bK ?_)));(case dA=>exact gG.out);(case dR=>repeat (first|exact (Kd.bn fF.out HB.out)|(with_reducible refine Kd.bA ?_ _)|(with_reducible refine Kd.bB ?_ _)|(with_reducible refine Kd.bK ?_)));(case dS=>exact gH.out);rintro e w29 ⟨rfl,hb⟩;replace eD:=bC eD hb;replace gD:=bC gD hb;replace jP:=bC jP hb;replace HB:=dF HB hb;(try clear hb);(try clear hb2);(try clear hk);(try clear hi);have aeD:=qb.out;have aeE:=qc.out;obtain ⟨wP,wQ,wS,wT,zF,zG,zH,wU,wV,wW,wX,zI,zJ,zK⟩:=ko gD.out)|(go_at_call 28;(with_reducible refine (cO.calls aU aQ aZ bf bE bF bG t127 _ A16.out).mono ?_);rintro e w32 ⟨rfl,hb⟩;replace eD:=bC eD hb;replace gD:=bC gD hb;replace jP:=bC jP hb;replace HB:=dF HB hb;(try clear hb);(try clear hb2);(try clear hk);(try clear hi);obtain ⟨vC,vD,wY,wZ,vE,vF,xc,xe⟩:=iC jP.out)|(go_at_call 63;(with_reducible refine (dC.calls bP bQ bR bS true _ A18.out).mono ?_);rintro e w34 ⟨rfl,hb⟩;replace eD:=bC eD hb;replace gD:=bC gD hb;replace jP:=bC jP hb;replace HB:=dF HB hb;(try clear hb);(try clear hb2);(try clear hk);(try clear hi)))
      go_ret
      exact ⟨lJ,gM⟩
     ·rw [if_neg c20] at H
      have Q6:decide (0≤a3) = false:=decide_eq_false c20
      clear c20
      obtain rfl:=Option.some.inj H
      go_enter Try.func18,Try.ntmps18
      go_wp2_with (first|((with_reducible refine aA (N:=4) rfl ?_);refine az (by rfl) (N:=4) (by rfl) (cs:=#[.int .i64 aj,.int .i64 ak,.int .i64 ax,.int .i64 ay,.int .i64 aJ,.int .i64 aC,.int .i64 aG,.slice dH aN.length dD,.slice dG av.length dE]) (t:=25) gQ ?_;intro V4 hg w35 hbox hb;have eD:=ae.mk (hbox);have V5:=dn HB hg;have V6:=dn HB hg;replace HB:=dF HB hb;clear hb hbox hg)|((with_reducible refine aA (N:=5) rfl ?_);refine az (by rfl) (N:=5) (by rfl) (cs:=#[.int .i64 aU,.int .i64 aQ,.int .i64 aZ,.int .i64 bf,.int .i64 bE,.int .i64 bF,.int .i64 bG]) (t:=29) gQ ?_;intro V7 hg w36 hbox hb;have gD:=ae.mk (hbox);have V8:=dn HB hg;have V9:=dn HB hg;have nQ:=iE eD hg;have nR:=iF eD hg;replace eD:=bC eD hb;replace HB:=dF HB hb;clear hb hbox hg)|((with_reducible refine aA (N:=6) rfl ?_);refine az (by rfl) (N:=6) (by rfl) (cs:=#[.int .i64 bP,.int .i64 bQ,.int .i64 bR,.int .i64 bS]) (t:=31) gQ ?_;intro Wd hg w37 hbox hb;have jP:=ae.mk (hbox);have We:=dn HB hg;have Wh:=dn HB hg;have nS:=iE eD hg;have nT:=iF eD hg;have qb:=iE gD hg;have qc:=iF gD hg;replace eD:=bC eD hb;replace gD:=bC gD hb;replace HB:=dF HB hb;clear hb hbox hg;have aqa:=nQ.out;have aqb:=nR.out;have aun:=nS.out;have auo:=nT.out;obtain ⟨Tp,Tq,Tt,Tu,aar,aas,aat,ajl,ajm,Tv,Tw,Tx,Ty,aau,aav,aaw,ajn,ajo⟩:=iI eD.out)|((with_reducible refine aW (f:=22) rfl ?_);refine dM (some 10) rfl rfl Try.func22 aR rfl #[.agg #[.int .i64 aj,.int .i64 ak,.int .i64 ax,.int .i64 ay,.int .i64 aJ,.int .i64 aC,.int .i64 aG,.slice dH aN.length dD,.slice dG av.length dE]] rfl jJ ?_;(with_reducible refine (gF.calls aj ak ax ay aJ aC aG _ _ aN _ _ av false _ ?dz ?dA ?dR ?dS A5.out).mono ?_);(case dz=>repeat (first|exact (Kd.bn gq.out HB.out)|(with_reducible refine Kd.bA ?_ _)|(with_reducible refine Kd.bB ?_ _)|(with_reducible refine Kd.bK ?_)));(case dA=>exact gG.out);(case dR=>repeat (first|exact (Kd.bn fF.out HB.out)|(with_reducible refine Kd.bA ?_ _)|(with_reducible refine Kd.bB ?_ _)|(with_reducible refine Kd.bK ?_)));(case dS=>exact gH.out);rintro e w41 ⟨rfl,hb⟩;refine ⟨_,rfl,?_⟩;replace eD:=bC eD hb;replace gD:=bC gD hb;replace jP:=bC jP hb;replace HB:=dF HB hb;(try clear hb);(try clear hb2);(try clear hk);(try clear hi);obtain ⟨akw,akx,aAY,aAZ,aA0,aA1,aA2,aA3,aA4,aky,akz,aA5,aA6,aA7,aA8,aA9,aBa,aBb⟩:=iI eD.out)|(go_at_call 26;(with_reducible refine (ai.calls k aj ak ax ay aJ aC aG _ _ aN _ _ av t126 _ ?dz ?dA ?dR ?dS ZL.out).mono ?_);(case dz=>repeat (first|exact (Kd.bn gq.out HB.out)|(with_reducible refine Kd.bA ?_ _)|(with_reducible refine Kd.bB ?_ _)|(with_reducible refine Kd.bK ?_)));(case dA=>exact gG.out);(case dR=>repeat (first|exact (Kd.bn fF.out HB.out)|(with_reducible refine Kd.bA ?_ _)|(with_reducible refine Kd.bB ?_ _)|(with_reducible refine Kd.bK ?_)));(case dS=>exact gH.out);rintro e w43 ⟨rfl,hb⟩;replace eD:=bC eD hb;replace gD:=bC gD hb;replace jP:=bC jP hb;replace HB:=dF HB hb;(try clear hb);(try clear hb2);(try clear hk);(try clear hi);have arC:=qb.out;have arD:=qc.out;obtain ⟨aBc,aBd,aBe,aBf,aBg,aBh,aBi,aBj,aBk,aBl,aBm,aBn,aBo,aBp⟩:=ko gD.out)|(go_at_call 28;(with_reducible refine (cO.calls aU aQ aZ bf bE bF bG t127 _ A16.out).mono ?_);rintro e w46 ⟨rfl,hb⟩;replace eD:=bC eD hb;replace gD:=bC gD hb;replace jP:=bC jP hb;replace HB:=dF HB hb;(try clear hb);(try clear hb2);(try clear hk);(try clear hi);obtain ⟨Tz,TA,TB,TC,TD,TE,TF,TG⟩:=iC jP.out)|(go_at_call 63;(with_reducible refine (dC.calls bP bQ bR bS true _ A18.out).mono ?_);rintro e w48 ⟨rfl,hb⟩;replace eD:=bC eD hb;replace gD:=bC gD hb;replace jP:=bC jP hb;replace HB:=dF HB hb;(try clear hb);(try clear hb2);(try clear hk);(try clear hi)))
      go_ret
      exact ⟨lJ,gM⟩
    ·replace c19:=Bool.eq_false_iff.mpr c19
     subst c19
     have H1:(some false) = some r:=by rw [if_neg (show ¬ (false = true) by decide)] at H;exact H
     clear H
     have H:=H1
     clear H1
     obtain rfl:=Option.some.inj H
     go_enter Try.func18,Try.ntmps18
     go_wp2_with (first|((with_reducible refine aA (N:=4) rfl ?_);refine az (by rfl) (N:=4) (by rfl) (cs:=#[.int .i64 aj,.int .i64 ak,.int .i64 ax,.int .i64 ay,.int .i64 aJ,.int .i64 aC,.int .i64 aG,.slice dH aN.length dD,.slice dG av.length dE]) (t:=25) gQ ?_;intro V4 hg w49 hbox hb;have eD:=ae.mk (hbox);have V5:=dn HB hg;have V6:=dn HB hg;replace HB:=dF HB hb;clear hb hbox hg)|((with_reducible refine aA (N:=5) rfl ?_);refine az (by rfl) (N:=5) (by rfl) (cs:=#[.int .i64 aU,.int .i64 aQ,.int .i64 aZ,.int .i64 bf,.int .i64 bE,.int .i64 bF,.int .i64 bG]) (t:=29) gQ ?_;intro V7 hg w50 hbox hb;have gD:=ae.mk (hbox);have V8:=dn HB hg;have V9:=dn HB hg;have nQ:=iE eD hg;have nR:=iF eD hg;replace eD:=bC eD hb;replace HB:=dF HB hb;clear hb hbox hg)|((with_reducible refine aA (N:=6) rfl ?_);refine az (by rfl) (N:=6) (by rfl) (cs:=#[.int .i64 bP,.int .i64 bQ,.int .i64 bR,.int .i64 bS]) (t:=31) gQ ?_;intro Wd hg w51 hbox hb;have jP:=ae.mk (hbox);have We:=dn HB hg;have Wh:=dn HB hg;have nS:=iE eD hg;have nT:=iF eD hg;have qb:=iE gD hg;have qc:=iF gD hg;replace eD:=bC eD hb;replace gD:=bC gD hb;replace HB:=dF HB hb;clear hb hbox hg;have aqU:=nQ.out;have aqV:=nR.out;have aH0:=nS.out;have aH1:=nT.out;obtain ⟨FR,FT,FU,FV,FW,FX,FY,akl,akm,FZ,F3,F4,F5,F6,F7,F8,akn,ako⟩:=iI eD.out)|((with_reducible refine aW (f:=22) rfl ?_);refine dM (some 10) rfl rfl Try.func22 aR rfl #[.agg #[.int .i64 aj,.int .i64 ak,.int .i64 ax,.int .i64 ay,.int .i64 aJ,.int .i64 aC,.int .i64 aG,.slice dH aN.length dD,.slice dG av.length dE]] rfl jJ ?_;(with_reducible refine (gF.calls aj ak ax ay aJ aC aG _ _ aN _ _ av false _ ?dz ?dA ?dR ?dS A5.out).mono ?_);(case dz=>repeat (first|exact (Kd.bn gq.out HB.out)|(with_reducible refine Kd.bA ?_ _)|(with_reducible refine Kd.bB ?_ _)|(with_reducible refine Kd.bK ?_)));(case dA=>exact gG.out);(case dR=>repeat (first|exact (Kd.bn fF.out HB.out)|(with_reducible refine Kd.bA ?_ _)|(with_reducible refine Kd.bB ?_ _)|(with_reducible refine Kd.bK ?_)));(case dS=>exact gH.out);rintro e w55 ⟨rfl,hb⟩;refine ⟨_,rfl,?_⟩;replace eD:=bC eD hb;replace gD:=bC gD hb;replace jP:=bC jP hb;replace HB:=dF HB hb;(try clear hb);(try clear hb2);(try clear hk);(try clear hi);obtain ⟨aih,aii,aij,aik,aBq,aBr,aBs,aBt,aBu,ail,aim,ain,aio,aBv,aBw,aBx,aBy,aBz⟩:=iI eD.out)|(go_at_call 26;(with_reducible refine (ai.calls k aj ak ax ay aJ aC aG _ _ aN _ _ av t126 _ ?dz ?dA ?dR ?dS ZL.out).mono ?_);(case dz=>repeat (first|exact (Kd.bn gq.out HB.out)|(with_reducible refine Kd.bA ?_ _)|(with_reducible refine Kd.bB ?_ _)|(with_reducible refine Kd.bK ?_)));(case dA=>exact gG.out);(case dR=>repeat (first|exact (Kd.bn fF.out HB.out)|(with_reducible refine Kd.bA ?_ _)|(with_reducible refine Kd.bB ?_ _)|(with_reducible refine Kd.bK ?_)));(case dS=>exact gH.out);rintro e w57 ⟨rfl,hb⟩;replace eD:=bC eD hb;replace gD:=bC gD hb;replace jP:=bC jP hb;replace HB:=dF HB hb;(try clear hb);(try clear hb2);(try clear hk);(try clear hi);have aH2:=qb.out;have aH3:=qc.out;obtain ⟨aip,aiq,air,ais,ait,aiu,aiv,aiw,aix,aiy,aiz,aiA,aiB,aiC⟩:=ko gD.out)|(go_at_call 28;(with_reducible refine (cO.calls aU aQ aZ bf bE bF bG t127 _ A16.out).mono ?_);rintro e w60 ⟨rfl,hb⟩;replace eD:=bC eD hb;replace gD:=bC gD hb;replace jP:=bC jP hb;replace HB:=dF HB hb;(try clear hb);(try clear hb2);(try clear hk);(try clear hi);obtain ⟨Zb,Zc,Zd,Ze,Zf,Zg,Zh,Zi⟩:=iC jP.out)|(go_at_call 63;(with_reducible refine (dC.calls bP bQ bR bS false _ A18.out).mono ?_);rintro e w62 ⟨rfl,hb⟩;replace eD:=bC eD hb;replace gD:=bC gD hb;replace jP:=bC jP hb;replace HB:=dF HB hb;(try clear hb);(try clear hb2);(try clear hk);(try clear hi)))
     go_ret
     exact ⟨lJ,gM⟩
   ·rw [if_neg c17] at H
    have adD:(t127 == 0) = false:=beq_eq_false_iff_ne.mpr c17
    have aul:(t127 != 0) = true:=bne_iff_ne.mpr c17
    obtain rfl:=Option.some.inj H
    go_enter Try.func18,Try.ntmps18
    go_wp2_with (first|((with_reducible refine aA (N:=4) rfl ?_);refine az (by rfl) (N:=4) (by rfl) (cs:=#[.int .i64 aj,.int .i64 ak,.int .i64 ax,.int .i64 ay,.int .i64 aJ,.int .i64 aC,.int .i64 aG,.slice dH aN.length dD,.slice dG av.length dE]) (t:=25) gQ ?_;intro V4 hg w63 hbox hb;have eD:=ae.mk (hbox);have V5:=dn HB hg;have V6:=dn HB hg;replace HB:=dF HB hb;clear hb hbox hg)|((with_reducible refine aA (N:=5) rfl ?_);refine az (by rfl) (N:=5) (by rfl) (cs:=#[.int .i64 aU,.int .i64 aQ,.int .i64 aZ,.int .i64 bf,.int .i64 bE,.int .i64 bF,.int .i64 bG]) (t:=29) gQ ?_;intro V7 hg w64 hbox hb;have gD:=ae.mk (hbox);have V8:=dn HB hg;have V9:=dn HB hg;have nQ:=iE eD hg;have nR:=iF eD hg;replace eD:=bC eD hb;replace HB:=dF HB hb;clear hb hbox hg)|((with_reducible refine aA (N:=6) rfl ?_);refine az (by rfl) (N:=6) (by rfl) (cs:=#[.int .i64 bP,.int .i64 bQ,.int .i64 bR,.int .i64 bS]) (t:=31) gQ ?_;intro Wd hg w65 hbox hb;have jP:=ae.mk (hbox);have We:=dn HB hg;have Wh:=dn HB hg;have nS:=iE eD hg;have nT:=iF eD hg;have qb:=iE gD hg;have qc:=iF gD hg;replace eD:=bC eD hb;replace gD:=bC gD hb;replace HB:=dF HB hb;clear hb hbox hg;have aH4:=nQ.out;have aH5:=nR.out;have aH6:=nS.out;have aH7:=nT.out;obtain ⟨aBA,aBB,aBC,aBD,aBE,aBF,aBG,aBH,aBI,aBJ,aBK,aBL,aBM,aBN,aBO,aBP,aBQ,aBR⟩:=iI eD.out)|((with_reducible refine aW (f:=22) rfl ?_);refine dM (some 10) rfl rfl Try.func22 aR rfl #[.agg #[.int .i64 aj,.int .i64 ak,.int .i64 ax,.int .i64 ay,.int .i64 aJ,.int .i64 aC,.int .i64 aG,.slice dH aN.length dD,.slice dG av.length dE]] rfl jJ ?_;(with_reducible refine (gF.calls aj ak ax ay aJ aC aG _ _ aN _ _ av false _ ?dz ?dA ?dR ?dS A5.out).mono ?_);(case dz=>repeat (first|exact (Kd.bn gq.out HB.out)|(with_reducible refine Kd.bA ?_ _)|(with_reducible refine Kd.bB ?_ _)|(with_reducible refine Kd.bK ?_)));(case dA=>exact gG.out);(case dR=>repeat (first|exact (Kd.bn fF.out HB.out)|(with_reducible refine Kd.bA ?_ _)|(with_reducible refine Kd.bB ?_ _)|(with_reducible refine Kd.bK ?_)));(case dS=>exact gH.out);rintro e w69 ⟨rfl,hb⟩;refine ⟨_,rfl,?_⟩;replace eD:=bC eD hb;replace gD:=bC gD hb;replace jP:=bC jP hb;replace HB:=dF HB hb;(try clear hb);(try clear hb2);(try clear hk);(try clear hi);obtain ⟨aBS,aBT,aBU,aBV,aBW,aBX,aBY,aBZ,aB0,aB1,aB2,aB3,aB4,aB5,aB6,aB7,aB8,aB9⟩:=iI eD.out)|(go_at_call 26;(with_reducible refine (ai.calls k aj ak ax ay aJ aC aG _ _ aN _ _ av t126 _ ?dz ?dA ?dR ?dS ZL.out).mono ?_);(case dz=>repeat (first|exact (Kd.bn gq.out HB.out)|(with_reducible refine Kd.bA ?_ _)|(with_reducible refine Kd.bB ?_ _)|(with_reducible refine Kd.bK ?_)));(case dA=>exact gG.out);(case dR=>repeat (first|exact (Kd.bn fF.out HB.out)|(with_reducible refine Kd.bA ?_ _)|(with_reducible refine Kd.bB ?_ _)|(with_reducible refine Kd.bK ?_)));(case dS=>exact gH.out);rintro e w71 ⟨rfl,hb⟩;replace eD:=bC eD hb;replace gD:=bC gD hb;replace jP:=bC jP hb;replace HB:=dF HB hb;(try clear hb);(try clear hb2);(try clear hk);(try clear hi);have ala:=qb.out;have alb:=qc.out;obtain ⟨aiL,aiM,aiN,aiO,aiP,aiQ,aiR,aiS,aiT,aiU,aiV,aiW,aiX,aiY⟩:=ko gD.out)|(go_at_call 28;(with_reducible refine (cO.calls aU aQ aZ bf bE bF bG t127 _ A16.out).mono ?_);rintro e w74 ⟨rfl,hb⟩;replace eD:=bC eD hb;replace gD:=bC gD hb;replace jP:=bC jP hb;replace HB:=dF HB hb;(try clear hb);(try clear hb2);(try clear hk);(try clear hi)))
    go_ret
    exact ⟨lJ,gM⟩
  ·rw [if_neg c15] at H
   have auj:(t126 == 0) = false:=beq_eq_false_iff_ne.mpr c15
   have auk:(t126 != 0) = true:=bne_iff_ne.mpr c15
   obtain rfl:=Option.some.inj H
   go_enter Try.func18,Try.ntmps18
   go_wp2_with (first|((with_reducible refine aA (N:=4) rfl ?_);refine az (by rfl) (N:=4) (by rfl) (cs:=#[.int .i64 aj,.int .i64 ak,.int .i64 ax,.int .i64 ay,.int .i64 aJ,.int .i64 aC,.int .i64 aG,.slice dH aN.length dD,.slice dG av.length dE]) (t:=25) gQ ?_;intro V4 hg w75 hbox hb;have eD:=ae.mk (hbox);have V5:=dn HB hg;have V6:=dn HB hg;replace HB:=dF HB hb;clear hb hbox hg)|((with_reducible refine aA (N:=5) rfl ?_);refine az (by rfl) (N:=5) (by rfl) (cs:=#[.int .i64 aU,.int .i64 aQ,.int .i64 aZ,.int .i64 bf,.int .i64 bE,.int .i64 bF,.int .i64 bG]) (t:=29) gQ ?_;intro V7 hg w76 hbox hb;have gD:=ae.mk (hbox);have V8:=dn HB hg;have V9:=dn HB hg;have nQ:=iE eD hg;have nR:=iF eD hg;replace eD:=bC eD hb;replace HB:=dF HB hb;clear hb hbox hg)|((with_reducible refine aA (N:=6) rfl ?_);refine az (by rfl) (N:=6) (by rfl) (cs:=#[.int .i64 bP,.int .i64 bQ,.int .i64 bR,.int .i64 bS]) (t:=31) gQ ?_;intro Wd hg w77 hbox hb;have jP:=ae.mk (hbox);have We:=dn HB hg;have Wh:=dn HB hg;have nS:=iE eD hg;have nT:=iF eD hg;have qb:=iE gD hg;have qc:=iF gD hg;replace eD:=bC eD hb;replace gD:=bC gD hb;replace HB:=dF HB hb;clear hb hbox hg;have aqY:=nQ.out;have aqZ:=nR.out;have ale:=nS.out;have alf:=nT.out;obtain ⟨aiZ,ai0,ai1,ai2,aCa,aCb,aCc,aCd,aCe,ai3,ai4,ai5,ai6,aCf,aCg,aCh,aCi,aCj⟩:=iI eD.out)|((with_reducible refine aW (f:=22) rfl ?_);refine dM (some 10) rfl rfl Try.func22 aR rfl #[.agg #[.int .i64 aj,.int .i64 ak,.int .i64 ax,.int .i64 ay,.int .i64 aJ,.int .i64 aC,.int .i64 aG,.slice dH aN.length dD,.slice dG av.length dE]] rfl jJ ?_;(with_reducible refine (gF.calls aj ak ax ay aJ aC aG _ _ aN _ _ av false _ ?dz ?dA ?dR ?dS A5.out).mono ?_);(case dz=>repeat (first|exact (Kd.bn gq.out HB.out)|(with_reducible refine Kd.bA ?_ _)|(with_reducible refine Kd.bB ?_ _)|(with_reducible refine Kd.bK ?_)));(case dA=>exact gG.out);(case dR=>repeat (first|exact (Kd.bn fF.out HB.out)|(with_reducible refine Kd.bA ?_ _)|(with_reducible refine Kd.bB ?_ _)|(with_reducible refine Kd.bK ?_)));(case dS=>exact gH.out);rintro e w81 ⟨rfl,hb⟩;refine ⟨_,rfl,?_⟩;replace eD:=bC eD hb;replace gD:=bC gD hb;replace jP:=bC jP hb;replace HB:=dF HB hb;(try clear hb);(try clear hb2);(try clear hk);(try clear hi);obtain ⟨ahs,aht,ahu,ahv,ahw,ahx,ahy,ahz,ahA,ahB,ahC,ahD,ahE,ahF,ahG,ahH,ahI,ahJ⟩:=iI eD.out)|(go_at_call 26;(with_reducible refine (ai.calls k aj ak ax ay aJ aC aG _ _ aN _ _ av t126 _ ?dz ?dA ?dR ?dS ZL.out).mono ?_);(case dz=>repeat (first|exact (Kd.bn gq.out HB.out)|(with_reducible refine Kd.bA ?_ _)|(with_reducible refine Kd.bB ?_ _)|(with_reducible refine Kd.bK ?_)));(case dA=>exact gG.out);(case dR=>repeat (first|exact (Kd.bn fF.out HB.out)|(with_reducible refine Kd.bA ?_ _)|(with_reducible refine Kd.bB ?_ _)|(with_reducible refine Kd.bK ?_)));(case dS=>exact gH.out);rintro e w83 ⟨rfl,hb⟩;replace eD:=bC eD hb;replace gD:=bC gD hb;replace jP:=bC jP hb;replace HB:=dF HB hb;(try clear hb);(try clear hb2);(try clear hk);(try clear hi)))
   go_ret
   exact ⟨lJ,gM⟩
end Go.Proofs.Ytmhaiihjfgfaoaa.Pr
end
section
namespace Go.Proofs.Ytmhaiihjfgfaoaa.Pr
open Go.RowKit Go.Proofs.YtmhaiihjfgfaoaaW.PrintWords Go.Proofs.YtmhaiihjfgfaoaaW.PrintLast Go.Proofs.YtmhaiihjfgfaoaaW.PrintMore
attribute [local go_sem] cz cB dK dL cK
set_option linter.unusedVariables false
set_option linter.unusedSimpArgs false
theorem ae5 (d:Nat) (w:World) (x0 y0:Int) (x1 y1:Int):
 (Op.equalIn (d+2) 27 (.agg #[.int .i64 x0,.int .i64 x1]) (.agg #[.int .i64 y0,.int .i64 y1])).run Try.prog w = .ok (x0 == y0 && (x1 == y1)) w:=by
 refine aeq Try.underlying27 aR ?_
 refine Vf (by rfl) (by go_simp;rfl) (by go_simp;rfl) (by go_simp) ?_
 exact Ve (by rfl) (by go_simp;rfl) (by go_simp;rfl) (by go_simp)
end Go.Proofs.Ytmhaiihjfgfaoaa.Pr
end
section
namespace Go.Proofs.Ytmhaiihjfgfaoaa.Pr
open Go.RowKit Go.Proofs.YtmhaiihjfgfaoaaW.PrintWords Go.Proofs.YtmhaiihjfgfaoaaW.PrintLast Go.Proofs.YtmhaiihjfgfaoaaW.PrintMore
attribute [local go_sem] cz cB dK dL cK
set_option linter.unusedVariables false
set_option linter.unusedSimpArgs false
theorem akK (d:Nat) (w:World) (x0 y0:Int) (x1 y1:Int) (x2 y2:Int) (x3 y3:Int):
 (Op.equalIn (d+3) 31 (.agg #[.int .i64 x0,.int .i64 x1,.int .i64 x2,.int .i64 x3]) (.agg #[.int .i64 y0,.int .i64 y1,.int .i64 y2,.int .i64 y3])).run Try.prog w = .ok ((x0 == y0 && (x1 == y1)) && ((x2 == y2 && (x3 == y3)))) w:=by
 refine aeq Try.underlying31 aR ?_
 refine Vf (by rfl) (by go_simp) (by go_simp) (ae5 (d+0) w _ _ _ _) ?_
 exact Ve (by rfl) (by go_simp) (by go_simp) (ae5 (d+0) w _ _ _ _)
end Go.Proofs.Ytmhaiihjfgfaoaa.Pr
end
section
namespace Go.Proofs.Ytmhaiihjfgfaoaa.Pr
open Go.RowKit Go.Proofs.YtmhaiihjfgfaoaaW.PrintWords Go.Proofs.YtmhaiihjfgfaoaaW.PrintLast Go.Proofs.YtmhaiihjfgfaoaaW.PrintMore
attribute [local go_sem] cz cB dK dL cK
set_option linter.unusedVariables false
set_option linter.unusedSimpArgs false
def bO.f (a0:Int) (a1:Int) (a2:Int):Option (Bool):=if a0 ≥ a1 then (some (decide (a0≤a2))) else (some false)
set_option maxHeartbeats 8000000 in
set_option maxRecDepth 100000 in
theorem bO.calls (a0:Int) (a1:Int) (a2:Int) (r:Bool) (w:World) (h:bO.f a0 a1 a2 = some r):
 Calls Try.prog 74 #[.int .i64 a0,.int .i64 a1,.int .i64 a2] w fun e w'=>e = .returned (.bool r)∧qi w w':=by
 have H:(if a0 ≥ a1 then (some (decide (a0≤a2))) else (some false)) = some r:=h
 clear h
 by_cases c4:a0 ≥ a1
 ·rw [if_pos c4] at H
  have rW:decide (a1≤a0) = true:=decide_eq_true c4
  clear c4
  obtain rfl:=Option.some.inj H
  go_enter Try.func74,Try.ntmps74
  go_wp2
  go_ret
  exact ⟨nI,R4⟩
 ·rw [if_neg c4] at H
  have rW:decide (a1≤a0) = false:=decide_eq_false c4
  clear c4
  obtain rfl:=Option.some.inj H
  go_enter Try.func74,Try.ntmps74
  go_wp2
  go_ret
  exact ⟨nI,R4⟩
end Go.Proofs.Ytmhaiihjfgfaoaa.Pr
end
section
namespace Go.Proofs.Ytmhaiihjfgfaoaa.Pr
open Go.RowKit Go.Proofs.YtmhaiihjfgfaoaaW.PrintWords Go.Proofs.YtmhaiihjfgfaoaaW.PrintLast Go.Proofs.YtmhaiihjfgfaoaaW.PrintMore
attribute [local go_sem] cz cB dK dL cK
set_option linter.unusedVariables false
set_option linter.unusedSimpArgs false
def dO.l0:Nat→List (nD)→Int→Int→Option (Int)
 |0,_,_,_=>none
 |k+1,x5,x6,x7=>if x7 < x6 then (if 0≤x7 then (if x7 < (x5.length:Int) then (if ((nz x5 x7).f0) > ((nz x5 x7).f1) then (some 2) else (if ((nz x5 x7).f0) < (-1073741824) then (some 2) else (if ((nz x5 x7).f1) > 1073741824 then (some 2) else (dO.l0 k x5 x6 (wrap64 (x7+1)))))) else (none)) else (none)) else (some 0)
def dO.f (k:Nat) (l0:List (nD)):Option (Int):=dO.l0 k l0 (l0.length:Int) 0
theorem dO.PL:∀ k,(∀ y0 y1 y2,mq (dO.l0 k y0 y1 y2) (dO.l0 (k+1) y0 y1 y2))
 |0=>fun _ _ _ r h=>by simp [dO.l0] at h
 |k+1=>by
  have ih0:=dO.PL k
  ·intro y0 y1 y2
   unfold dO.l0
   repeat' first
   |(with_reducible exact ih0 _ _ _)
   |(with_reducible exact mq.refl _)
   |(with_reducible exact mq.none _)
   |(with_reducible refine mq.ite ?_ ?_)
   |(with_reducible refine mq.bind ?_ (fun _=>?_))
   |exact ih0 _ _ _
   |exact mq.none _
   |refine mq.ite ?_ ?_
   |refine mq.bind ?_ (fun _=>?_)
theorem dO.mono:∀ a0 k,mq (dO.f k a0) (dO.f (k+1) a0):=by
 intro a0 k
 have ih0:=dO.PL k
 unfold dO.f
 repeat' first
  |(with_reducible exact ih0 _ _ _)
  |(with_reducible exact mq.refl _)
  |(with_reducible exact mq.none _)
  |(with_reducible refine mq.ite ?_ ?_)
  |(with_reducible refine mq.bind ?_ (fun _=>?_))
  |exact ih0 _ _ _
  |exact mq.none _
  |refine mq.ite ?_ ?_
  |refine mq.bind ?_ (fun _=>?_)
set_option maxHeartbeats 8000000 in
set_option maxRecDepth 100000 in
theorem dO.calls (k:Nat) (A0:Option Addr) (c0:Nat) (l0:List (nD)) (r:Int) (w:World) (hr0:Kd.C k27 w A0 l0.length l0) (hc0:l0.length≤c0) (h:dO.f k l0 = some r):
 Calls Try.prog 116 #[.slice A0 l0.length c0] w fun e w'=>e = .returned (.int .i64 r)∧Below w.heap.size w w':=by
 have pK:=Try.underlying27
 have GX:=ae.mk hr0
 have HC0:=ae.mk hc0
 clear hr0 hc0
 have HB:=ae.mk (Below.refl w.heap.size w)
 have H:(dO.l0 k l0 (l0.length:Int) 0) = some r:=h
 clear h
 have H':=ae.mk H
 clear H
 go_enter Try.func116,Try.ntmps116
 go_wp2
 go_loopg [7] k (fun kq v7 w'=>∃ (jc:Int),v7 = .int .i64 jc∧ae (dO.l0 kq l0 (l0.length:Int) jc = some r)∧ae (kq≤k)∧ae (Below w.heap.size w w'))
 case atStart=>exact ⟨(0),nI,H',⟨Nat.le_refl _⟩,⟨gM⟩⟩
 case round =>
  clear H'
  try clear c1
  obtain ⟨jc,rfl,HA,Mi,HB⟩:=hrel
  cases gk with
  |zero=>exact absurd HA.out (by simp [dO.l0])
  |succ k1 =>
   have H:=HA.out
   clear HA
   simp only [dO.l0] at H
   by_cases c2:jc < (l0.length:Int)
   ·rw [if_pos c2] at H
    have U9:decide (jc < (l0.length:Int)) = true:=decide_eq_true c2
    clear c2
    by_cases c3:0≤jc
    ·rw [if_pos c3] at H
     have Db:decide (0≤jc) = true:=decide_eq_true c3
     clear c3
     by_cases c4:jc < (l0.length:Int)
     ·rw [if_pos c4] at H
      have rW:decide (jc < (l0.length:Int)) = true:=decide_eq_true c4
      clear c4
      by_cases c5:((nz l0 jc).f0) > ((nz l0 jc).f1)
      ·rw [if_pos c5] at H
       have Dc:decide (((nz l0 jc).f1) < ((nz l0 jc).f0)) = true:=decide_eq_true c5
       clear c5
       obtain rfl:=Option.some.inj H
       have Hm:0≤(jc:Int):=of_decide_eq_true lX
       have Ho:jc < (l0.length:Int):=of_decide_eq_true lX
       obtain ⟨afq,e129,oC,oD⟩:=TT GX.out jc Hm Ho
       cases e129
       replace oC:=(HB.out.cell (World.block_lt_of_cell? w _ oC)).trans oC
       replace oD:=(HB.out.cell (World.block_lt_of_cell? w _ oD)).trans oD
       replace Hm:=eq_true Hm
       replace Ho:=eq_true Ho
       go_wp2_with (first|((with_reducible refine aA (N:=4) rfl ?_);refine az (by rfl) (N:=4) (by rfl) (cs:=#[.int .i64 0,.int .i64 0]) (t:=27) gQ ?_;intro afr hg w6 hbox hb;have PM:=ae.mk (hbox);have afs:=dn HB hg;have aft:=dn HB hg;replace HB:=dF HB hb;clear hb hbox hg;obtain ⟨xI,xJ,xK,xL⟩:=nE PM.out))
       go_ret
       exact ⟨lJ,gM⟩
      ·rw [if_neg c5] at H
       have Dc:decide (((nz l0 jc).f1) < ((nz l0 jc).f0)) = false:=decide_eq_false c5
       clear c5
       by_cases c8:((nz l0 jc).f0) < (-1073741824)
       ·rw [if_pos c8] at H
        have Lb:decide (((nz l0 jc).f0) < (-1073741824)) = true:=decide_eq_true c8
        clear c8
        obtain rfl:=Option.some.inj H
        have Hm:0≤(jc:Int):=of_decide_eq_true lX
        have Ho:jc < (l0.length:Int):=of_decide_eq_true lX
        obtain ⟨afq,e129,oC,oD⟩:=TT GX.out jc Hm Ho
        cases e129
        replace oC:=(HB.out.cell (World.block_lt_of_cell? w _ oC)).trans oC
        replace oD:=(HB.out.cell (World.block_lt_of_cell? w _ oD)).trans oD
        replace Hm:=eq_true Hm
        replace Ho:=eq_true Ho
        go_wp2_with (first|((with_reducible refine aA (N:=4) rfl ?_);refine az (by rfl) (N:=4) (by rfl) (cs:=#[.int .i64 0,.int .i64 0]) (t:=27) gQ ?_;intro afr hg w9 hbox hb;have PM:=ae.mk (hbox);have afs:=dn HB hg;have aft:=dn HB hg;replace HB:=dF HB hb;clear hb hbox hg;obtain ⟨wL,wM,wN,wO⟩:=nE PM.out))
        go_ret
        exact ⟨lJ,gM⟩
       ·rw [if_neg c8] at H
        have Lb:decide (((nz l0 jc).f0) < (-1073741824)) = false:=decide_eq_false c8
        clear c8
        by_cases c11:((nz l0 jc).f1) > 1073741824
        ·rw [if_pos c11] at H
         have IK:decide (1073741824 < ((nz l0 jc).f1)) = true:=decide_eq_true c11
         clear c11
         obtain rfl:=Option.some.inj H
         have Hm:0≤(jc:Int):=of_decide_eq_true lX
         have Ho:jc < (l0.length:Int):=of_decide_eq_true lX
         obtain ⟨afq,e129,oC,oD⟩:=TT GX.out jc Hm Ho
         cases e129
         replace oC:=(HB.out.cell (World.block_lt_of_cell? w _ oC)).trans oC
         replace oD:=(HB.out.cell (World.block_lt_of_cell? w _ oD)).trans oD
         replace Hm:=eq_true Hm
         replace Ho:=eq_true Ho
         go_wp2_with (first|((with_reducible refine aA (N:=4) rfl ?_);refine az (by rfl) (N:=4) (by rfl) (cs:=#[.int .i64 0,.int .i64 0]) (t:=27) gQ ?_;intro afr hg MC hbox hb;have PM:=ae.mk (hbox);have afs:=dn HB hg;have aft:=dn HB hg;replace HB:=dF HB hb;clear hb hbox hg;obtain ⟨uW,uX,uY,uZ⟩:=nE PM.out))
         go_ret
         exact ⟨lJ,gM⟩
        ·rw [if_neg c11] at H
         have IK:decide (1073741824 < ((nz l0 jc).f1)) = false:=decide_eq_false c11
         clear c11
         have H':=ae.mk H
         clear H
         have Hm:0≤(jc:Int):=of_decide_eq_true lX
         have Ho:jc < (l0.length:Int):=of_decide_eq_true lX
         obtain ⟨afq,e129,oC,oD⟩:=TT GX.out jc Hm Ho
         cases e129
         replace oC:=(HB.out.cell (World.block_lt_of_cell? w _ oC)).trans oC
         replace oD:=(HB.out.cell (World.block_lt_of_cell? w _ oD)).trans oD
         replace Hm:=eq_true Hm
         replace Ho:=eq_true Ho
         go_wp2_with (first|((with_reducible refine aA (N:=4) rfl ?_);refine az (by rfl) (N:=4) (by rfl) (cs:=#[.int .i64 0,.int .i64 0]) (t:=27) gQ ?_;intro afr hg w14 hbox hb;have PM:=ae.mk (hbox);have afs:=dn HB hg;have aft:=dn HB hg;replace HB:=dF HB hb;clear hb hbox hg;obtain ⟨pM,pO,pQ,pR⟩:=nE PM.out))
         go_roundg k1
         case measure=>have:=Mi.out;omega
         case rel=>exact ⟨(wrap64 (jc+1)),nI,H',⟨RF⟩,⟨gM⟩⟩
     ·rw [if_neg c4] at H
      exact absurd H (by simp)
    ·rw [if_neg c3] at H
     exact absurd H (by simp)
   ·rw [if_neg c2] at H
    have U9:decide (jc < (l0.length:Int)) = false:=decide_eq_false c2
    clear c2
    obtain rfl:=Option.some.inj H
    go_wp2
    go_ret
    exact ⟨lJ,gM⟩
end Go.Proofs.Ytmhaiihjfgfaoaa.Pr
end
section
namespace Go.Proofs.Ytmhaiihjfgfaoaa.Pr
open Go.RowKit Go.Proofs.YtmhaiihjfgfaoaaW.PrintWords Go.Proofs.YtmhaiihjfgfaoaaW.PrintLast Go.Proofs.YtmhaiihjfgfaoaaW.PrintMore
attribute [local go_sem] cz cB dK dL cK
set_option linter.unusedVariables false
set_option linter.unusedSimpArgs false
def jF.f (k:Nat) (aj:Int) (ak:Int):Option (Int):=(dO.f k (([(⟨aj,ak⟩:nD)]:List (nD)))).bind fun t135=>(some t135)
theorem jF.mono:∀ a0 a1 k,mq (jF.f k a0 a1) (jF.f (k+1) a0 a1):=by
 intro a0 a1 k
 unfold jF.f
 repeat' first
  |(with_reducible exact dO.mono _ _)
  |(with_reducible exact mq.refl _)
  |(with_reducible exact mq.none _)
  |(with_reducible refine mq.ite ?_ ?_)
  |(with_reducible refine mq.bind ?_ (fun _=>?_))
  |exact dO.mono _ _
  |exact mq.none _
  |refine mq.ite ?_ ?_
  |refine mq.bind ?_ (fun _=>?_)
set_option maxHeartbeats 8000000 in
set_option maxRecDepth 100000 in
theorem jF.calls (k:Nat) (aj:Int) (ak:Int) (r:Int) (w:World) (h:jF.f k aj ak = some r):
 Calls Try.prog 122 #[.agg #[.int .i64 aj,.int .i64 ak]] w fun e w'=>e = .returned (.int .i64 r)∧Below w.heap.size w w':=by
 have pK:=Try.underlying27
 have HB:=ae.mk (Below.refl w.heap.size w)
 have H:((dO.f k (([(⟨aj,ak⟩:nD)]:List (nD)))).bind fun t135=>(some t135)) = some r:=h
 clear h
 obtain ⟨an7,Wi⟩:∃ y_:List (nD),y_ = (([(⟨aj,ak⟩:nD)]:List (nD))):=⟨_,rfl⟩
 replace H:((dO.f k an7).bind fun t135=>(some t135)) = some r:=by first|(rw [Wi];with_reducible exact H)|(have KU:=(Option.bind_some _ _).symm.trans H;rw [Wi];with_reducible exact KU)|(have KU:=(Option.bind_some _ _).symm.trans H;with_reducible exact KU)|with_reducible exact H|(rw [Wi];exact H)|exact H
 have alT:=ae.mk Wi
 clear Wi
 replace H:=Option.bind_eq_some_iff.mp H
 obtain ⟨t135,Yu,H⟩:=H
 replace H:(some t135) = some r:=H
 have A2:=ae.mk Yu
 clear Yu
 obtain rfl:=Option.some.inj H
 go_enter Try.func122,Try.ntmps122
 go_wp2_with (first|((with_reducible refine aA (N:=1) rfl ?_);refine az (by rfl) (N:=1) (by rfl) (cs:=#[.int .i64 aj,.int .i64 ak]) (t:=27) gQ ?_;intro aup hg w3 hbox hb;have Wj:=ae.mk (hbox);have aH8:=dn HB hg;have aH9:=dn HB hg;replace HB:=dF HB hb;clear hb hbox hg;obtain ⟨TH,TI,TJ,TK⟩:=nE Wj.out)|((with_reducible refine aA (N:=4) rfl ?_);refine Kd.Dh k27 _ 27 (by rfl) (N:=4) (by rfl) (xs:=([(⟨aj,ak⟩:nD)]:List (nD))) (inner:=[.int .i64 aj,.int .i64 ak]) (ok:=fun _=>True) (okp:=fun _=>True) gQ (by exact (lV.c2 (show Kd.M k27 _ _ _ (⟨aj,ak⟩:nD) [.int .i64 aj,.int .i64 ak] from (CR _ _ _ (⟨aj,ak⟩:nD))) (lV.none _ _))) (fun _ hk=>hk) trivial (Below.refl _ _) (Nat.le_refl _) (by simp) ?_;intro aJX w5 Ph hb PV qy;clear PV qy;(first|rw [← alT.out] at Ph|(simp only [Int.reduceToNat] at Ph;rw [← alT.out] at Ph));have Wl:=ae.mk (Kd.lH (Kd.KM Ph (g:=aup) (o:=.cells #[.int .i64 aj,.int .i64 ak] 27 (0,0)) iq) (iG gM));replace Wj:=bC Wj hb;replace HB:=dF HB hb;clear hb Ph;obtain ⟨Ao7,co7,eo7⟩:=Kd.ma Wl.out;subst eo7)|((with_reducible refine aW (f:=116) rfl ?_);refine dM (some 5) rfl rfl Try.func116 aR rfl #[.slice Ao7 an7.length co7] rfl jJ ?_;(with_reducible refine (dO.calls k _ _ an7 t135 _ ?dz ?dA A2.out).mono ?_);(case dz=>repeat (first|exact (Kd.iL Wl.out).2.2|(with_reducible refine Kd.bA ?_ _)|(with_reducible refine Kd.bB ?_ _)|(with_reducible refine Kd.bK ?_)));(case dA=>exact (Kd.iL Wl.out).2.1);rintro e w8 ⟨rfl,hb⟩;refine ⟨_,rfl,?_⟩;replace Wl:=xB Wl hb;replace Wj:=bC Wj hb;replace HB:=dF HB hb;(try clear hb);(try clear hb2);(try clear hk);(try clear hi)))
 go_ret
 exact ⟨lJ,gM⟩
end Go.Proofs.Ytmhaiihjfgfaoaa.Pr
end
section
namespace Go.Proofs.Ytmhaiihjfgfaoaa.Pr
open Go.RowKit Go.Proofs.YtmhaiihjfgfaoaaW.PrintWords Go.Proofs.YtmhaiihjfgfaoaaW.PrintLast Go.Proofs.YtmhaiihjfgfaoaaW.PrintMore
attribute [local go_sem] cz cB dK dL cK
set_option linter.unusedVariables false
set_option linter.unusedSimpArgs false
def bJ.f (k:Nat) (aj:Int) (ak:Int) (a1:Int) (a2:Int):Option (Bool):=(jF.f k aj ak).bind fun t137=>(if t137 = 0 then (if aj ≥ a1 then (some (decide (ak≤a2))) else (some false)) else (some false))
theorem bJ.mono:∀ a0 a1 a2 a3 k,mq (bJ.f k a0 a1 a2 a3) (bJ.f (k+1) a0 a1 a2 a3):=by
 intro a0 a1 a2 a3 k
 unfold bJ.f
 repeat' first
  |(with_reducible exact jF.mono _ _ _)
  |(with_reducible exact mq.refl _)
  |(with_reducible exact mq.none _)
  |(with_reducible refine mq.ite ?_ ?_)
  |(with_reducible refine mq.bind ?_ (fun _=>?_))
  |exact jF.mono _ _ _
  |exact mq.none _
  |refine mq.ite ?_ ?_
  |refine mq.bind ?_ (fun _=>?_)
set_option maxHeartbeats 8000000 in
set_option maxRecDepth 100000 in
theorem bJ.calls (k:Nat) (aj:Int) (ak:Int) (a1:Int) (a2:Int) (r:Bool) (w:World) (h:bJ.f k aj ak a1 a2 = some r):
 Calls Try.prog 77 #[.agg #[.int .i64 aj,.int .i64 ak],.int .i64 a1,.int .i64 a2] w fun e w'=>e = .returned (.bool r)∧Below w.heap.size w w':=by
 have pK:=Try.underlying27
 have HB:=ae.mk (Below.refl w.heap.size w)
 have H:((jF.f k aj ak).bind fun t137=>(if t137 = 0 then (if aj ≥ a1 then (some (decide (ak≤a2))) else (some false)) else (some false))) = some r:=h
 clear h
 replace H:=Option.bind_eq_some_iff.mp H
 obtain ⟨t137,LX,H⟩:=H
 replace H:(if t137 = 0 then (if aj ≥ a1 then (some (decide (ak≤a2))) else (some false)) else (some false)) = some r:=H
 have A4:=ae.mk LX
 clear LX
 by_cases c5:t137 = 0
 ·rw [if_pos c5] at H
  have Dc:(t137 == 0) = true:=beq_iff_eq.mpr c5
  have abz:(t137 != 0) = false:=bne_eq_false_iff_eq.mpr c5
  clear c5
  by_cases c6:aj ≥ a1
  ·rw [if_pos c6] at H
   have Dp:decide (a1≤aj) = true:=decide_eq_true c6
   clear c6
   obtain rfl:=Option.some.inj H
   go_enter Try.func77,Try.ntmps77
   go_wp2_with (first|((with_reducible refine aA (N:=3) rfl ?_);refine az (by rfl) (N:=3) (by rfl) (cs:=#[.int .i64 aj,.int .i64 ak]) (t:=27) gQ ?_;intro alU hg w7 hbox hb;have Bf:=ae.mk (hbox);have alV:=dn HB hg;have alW:=dn HB hg;replace HB:=dF HB hb;clear hb hbox hg;obtain ⟨GQ,GR,GU,GV⟩:=nE Bf.out)|((with_reducible refine aW (f:=122) rfl ?_);refine dM (some 8) rfl rfl Try.func122 aR rfl #[.agg #[.int .i64 aj,.int .i64 ak]] rfl jJ ?_;(with_reducible refine (jF.calls k aj ak t137 _ A4.out).mono ?_);rintro e w9 ⟨rfl,hb⟩;refine ⟨_,rfl,?_⟩;replace Bf:=bC Bf hb;replace HB:=dF HB hb;(try clear hb);(try clear hb2);(try clear hk);(try clear hi);obtain ⟨wL,wM,wN,wO⟩:=nE Bf.out))
   go_ret
   exact ⟨lJ,gM⟩
  ·rw [if_neg c6] at H
   have Dp:decide (a1≤aj) = false:=decide_eq_false c6
   clear c6
   obtain rfl:=Option.some.inj H
   go_enter Try.func77,Try.ntmps77
   go_wp2_with (first|((with_reducible refine aA (N:=3) rfl ?_);refine az (by rfl) (N:=3) (by rfl) (cs:=#[.int .i64 aj,.int .i64 ak]) (t:=27) gQ ?_;intro alU hg w11 hbox hb;have Bf:=ae.mk (hbox);have alV:=dn HB hg;have alW:=dn HB hg;replace HB:=dF HB hb;clear hb hbox hg;obtain ⟨uS,uT,uU,uV⟩:=nE Bf.out)|((with_reducible refine aW (f:=122) rfl ?_);refine dM (some 8) rfl rfl Try.func122 aR rfl #[.agg #[.int .i64 aj,.int .i64 ak]] rfl jJ ?_;(with_reducible refine (jF.calls k aj ak t137 _ A4.out).mono ?_);rintro e w13 ⟨rfl,hb⟩;refine ⟨_,rfl,?_⟩;replace Bf:=bC Bf hb;replace HB:=dF HB hb;(try clear hb);(try clear hb2);(try clear hk);(try clear hi);obtain ⟨wm,wo,wu,wy⟩:=nE Bf.out))
   go_ret
   exact ⟨lJ,gM⟩
 ·rw [if_neg c5] at H
  have Dc:(t137 == 0) = false:=beq_eq_false_iff_ne.mpr c5
  have abz:(t137 != 0) = true:=bne_iff_ne.mpr c5
  obtain rfl:=Option.some.inj H
  go_enter Try.func77,Try.ntmps77
  go_wp2_with (first|((with_reducible refine aA (N:=3) rfl ?_);refine az (by rfl) (N:=3) (by rfl) (cs:=#[.int .i64 aj,.int .i64 ak]) (t:=27) gQ ?_;intro alU hg WW hbox hb;have Bf:=ae.mk (hbox);have alV:=dn HB hg;have alW:=dn HB hg;replace HB:=dF HB hb;clear hb hbox hg;obtain ⟨TU,TV,TW,TY⟩:=nE Bf.out)|((with_reducible refine aW (f:=122) rfl ?_);refine dM (some 8) rfl rfl Try.func122 aR rfl #[.agg #[.int .i64 aj,.int .i64 ak]] rfl jJ ?_;(with_reducible refine (jF.calls k aj ak t137 _ A4.out).mono ?_);rintro e Ac ⟨rfl,hb⟩;refine ⟨_,rfl,?_⟩;replace Bf:=bC Bf hb;replace HB:=dF HB hb;(try clear hb);(try clear hb2);(try clear hk);(try clear hi)))
  go_ret
  exact ⟨lJ,gM⟩
end Go.Proofs.Ytmhaiihjfgfaoaa.Pr
end
