import Derived.Test.YtmhaiihjfgfaoaaGhGliderHolds3
import Derived.Test.YtmhaiihjfgfaoaaGhGliderHolds17
section
namespace Go.Proofs.Ytmhaiihjfgfaoaa.Pr
open Go.RowKit Go.Proofs.YtmhaiihjfgfaoaaW.PrintWords Go.Proofs.YtmhaiihjfgfaoaaW.PrintLast Go.Proofs.YtmhaiihjfgfaoaaW.PrintMore
attribute [local go_sem] cz cB dK dL cK
set_option linter.unusedVariables false
set_option linter.unusedSimpArgs false
def dw.f (k:Nat) (aj:Int) (ak:Int) (ax:Int) (ay:Int) (aJ:Int) (aC:Int) (aG:Int) (aN:List Bool) (av:List (nU)) (aU:Int) (aQ:Int) (aZ:Int) (bf:Int) (bE:Int) (bF:Int) (bG:Int) (bP:Int) (bQ:Int) (bR:Int) (bS:Int) (a3:Int):Option (Bool):=(eB.f k aj ak ax ay aJ aC aG aN av aU aQ aZ bf bE bF bG bP bQ bR bS).bind fun Jg=>((iQ.f aj ak ax ay aJ aC aG aN av Jg.1 Jg.2.1 Jg.2.2.1 Jg.2.2.2).bind fun U5=>(if U5 = true then ((iw.f aj ak ax ay aJ aC aG aN av a3 (wrap64 (a3+aQ))).bind fun Mo=>(some Mo)) else (some false)))
def dw.T1:Bool × List (List Nat × List Nat):=(true,[([],[]),([],[]),([],[]),([],[]),([1,2,3],[1,2,3]),([0,4,4],[0,4]),([5,5],[5]),([6],[6]),([6],[6]),([6],[6]),([6],[6]),([10,6],[6,10]),([9,11,6],[6,9,11]),([7,8,12,6,6],[6,7,8,12]),([6,13],[6,13]),([14,13,0,1,2,3,4,5,6,7,8,9,10,11,12,13,14],[14])])
def dw.B1:List Nat:=[0,0,0,0,14,31,63,127,127,127,127,1151,3711,8191,16383,32767]
theorem dw.agF:oQ .any (opsOf Try.f105 1) = dw.T1:=by kernel_rfl
theorem dw.YM:lI dw.T1.2 dw.B1 = true:=by kernel_rfl
set_option maxHeartbeats 8000000 in
set_option maxRecDepth 100000 in
theorem dw.calls (k:Nat) (aj:Int) (ak:Int) (ax:Int) (ay:Int) (aJ:Int) (aC:Int) (aG:Int) (dH:Option Addr) (dD:Nat) (aN:List Bool) (dG:Option Addr) (dE:Nat) (av:List (nU)) (aU:Int) (aQ:Int) (aZ:Int) (bf:Int) (bE:Int) (bF:Int) (bG:Int) (bP:Int) (bQ:Int) (bR:Int) (bS:Int) (a3:Int) (r:Bool) (w:World) (iW:Kd.C Kd.bool w dH aN.length aN) (iX:aN.length≤dD) (iY:Kd.C CY w dG av.length av) (iZ:av.length≤dE) (h:dw.f k aj ak ax ay aJ aC aG aN av aU aQ aZ bf bE bF bG bP bQ bR bS a3 = some r):
 Calls Try.prog 105 #[.agg #[.int .i64 aj,.int .i64 ak,.int .i64 ax,.int .i64 ay,.int .i64 aJ,.int .i64 aC,.int .i64 aG,.slice dH aN.length dD,.slice dG av.length dE],.agg #[.int .i64 aU,.int .i64 aQ,.int .i64 aZ,.int .i64 bf,.int .i64 bE,.int .i64 bF,.int .i64 bG],.agg #[.int .i64 bP,.int .i64 bQ,.int .i64 bR,.int .i64 bS],.int .i64 a3] w fun e w'=>e = .returned (.bool r)∧Below w.heap.size w w':=by
 have xE:=Try.underlying25
 have BL:=Try.underlying29
 have qP:=Try.underlying31
 have gq:=ae.mk iW
 have gG:=ae.mk iX
 clear iW iX
 have fF:=ae.mk iY
 have gH:=ae.mk iZ
 clear iY iZ
 have HB:=ae.mk (Below.refl w.heap.size w)
 have H:((eB.f k aj ak ax ay aJ aC aG aN av aU aQ aZ bf bE bF bG bP bQ bR bS).bind fun Jg=>((iQ.f aj ak ax ay aJ aC aG aN av Jg.1 Jg.2.1 Jg.2.2.1 Jg.2.2.2).bind fun U5=>(if U5 = true then ((iw.f aj ak ax ay aJ aC aG aN av a3 (wrap64 (a3+aQ))).bind fun Mo=>(some Mo)) else (some false)))) = some r:=h
 clear h
 replace H:=Option.bind_eq_some_iff.mp H
 obtain ⟨⟨Xg,Xh,Xi,Xj⟩,OX,H⟩:=H
 replace H:((iQ.f aj ak ax ay aJ aC aG aN av Xg Xh Xi Xj).bind fun U5=>(if U5 = true then ((iw.f aj ak ax ay aJ aC aG aN av a3 (wrap64 (a3+aQ))).bind fun Mo=>(some Mo)) else (some false))) = some r:=H
 have A5:=ae.mk OX
 clear OX
 replace H:=Option.bind_eq_some_iff.mp H
 obtain ⟨U5,KI,H⟩:=H
 replace H:(if U5 = true then ((iw.f aj ak ax ay aJ aC aG aN av a3 (wrap64 (a3+aQ))).bind fun Mo=>(some Mo)) else (some false)) = some r:=H
 have A6:=ae.mk KI
 clear KI
 by_cases c7:U5 = true
 ·subst c7
  have H1:((iw.f aj ak ax ay aJ aC aG aN av a3 (wrap64 (a3+aQ))).bind fun Mo=>(some Mo)) = some r:=by rw [if_pos rfl] at H;exact H
  clear H
  have H:=H1
  clear H1
  replace H:=Option.bind_eq_some_iff.mp H
  obtain ⟨Mo,U6,H⟩:=H
  replace H:(some Mo) = some r:=H
  have A8:=ae.mk U6
  clear U6
  obtain rfl:=Option.some.inj H
  go_enter Try.func105,Try.ntmps105
  try go_wp2_with (first|((with_reducible refine aA (N:=4) rfl ?_);refine az (by rfl) (N:=4) (by rfl) (cs:=#[.int .i64 aj,.int .i64 ak,.int .i64 ax,.int .i64 ay,.int .i64 aJ,.int .i64 aC,.int .i64 aG,.slice dH aN.length dD,.slice dG av.length dE]) (t:=25) gQ ?_;intro sI hg w9 hbox hb;have eH:=ae.mk (hbox);have apE:=dn HB hg;have apF:=dn HB hg;replace HB:=dF HB hb;clear hb hbox hg)|((with_reducible refine aA (N:=5) rfl ?_);refine az (by rfl) (N:=5) (by rfl) (cs:=#[.int .i64 aU,.int .i64 aQ,.int .i64 aZ,.int .i64 bf,.int .i64 bE,.int .i64 bF,.int .i64 bG]) (t:=29) gQ ?_;intro xP hg w10 hbox hb;have fM:=ae.mk (hbox);have apG:=dn HB hg;have apH:=dn HB hg;have abP:=iE eH hg;have abQ:=iF eH hg;replace eH:=bC eH hb;replace HB:=dF HB hb;clear hb hbox hg)|((with_reducible refine aA (N:=6) rfl ?_);refine az (by rfl) (N:=6) (by rfl) (cs:=#[.int .i64 bP,.int .i64 bQ,.int .i64 bR,.int .i64 bS]) (t:=31) gQ ?_;intro Jh hg w11 hbox hb;have jM:=ae.mk (hbox);have apI:=dn HB hg;have apJ:=dn HB hg;have abR:=iE eH hg;have abS:=iF eH hg;have abT:=iE fM hg;have abU:=iF fM hg;replace eH:=bC eH hb;replace fM:=bC fM hb;replace HB:=dF HB hb;clear hb hbox hg))
  replace eH:=ae.mk (ah eH.out)
  replace fM:=ae.mk (ah fM.out)
  replace jM:=ae.mk (ah jM.out)
  replace HB:=ae.mk (bW HB.out)
  refine jI (n:=16) (S:=fun w'=>w'.cell? ⟨sI,0,none⟩ = some (.int .i64 aj)∧w'.cell? ⟨sI,1,none⟩ = some (.int .i64 ak)∧w'.cell? ⟨sI,2,none⟩ = some (.int .i64 ax)∧w'.cell? ⟨sI,3,none⟩ = some (.int .i64 ay)∧w'.cell? ⟨sI,4,none⟩ = some (.int .i64 aJ)∧w'.cell? ⟨sI,5,none⟩ = some (.int .i64 aC)∧w'.cell? ⟨sI,6,none⟩ = some (.int .i64 aG)∧w'.cell? ⟨sI,7,none⟩ = some (.slice dH aN.length dD)∧w'.cell? ⟨sI,8,none⟩ = some (.slice dG av.length dE)∧w'.cell? ⟨xP,0,none⟩ = some (.int .i64 aU)∧w'.cell? ⟨xP,1,none⟩ = some (.int .i64 aQ)∧w'.cell? ⟨xP,2,none⟩ = some (.int .i64 aZ)∧w'.cell? ⟨xP,3,none⟩ = some (.int .i64 bf)∧w'.cell? ⟨xP,4,none⟩ = some (.int .i64 bE)∧w'.cell? ⟨xP,5,none⟩ = some (.int .i64 bF)∧w'.cell? ⟨xP,6,none⟩ = some (.int .i64 bG)∧w'.cell? ⟨Jh,0,none⟩ = some (.int .i64 bP)∧w'.cell? ⟨Jh,1,none⟩ = some (.int .i64 bQ)∧w'.cell? ⟨Jh,2,none⟩ = some (.int .i64 bR)∧w'.cell? ⟨Jh,3,none⟩ = some (.int .i64 bS)) (ds:=[]) #[false,false,false,false,false,false,false,false,false,false,false,false,false,false,false,false] aR rfl rfl ⟨(aa eH.out 0).trans rfl,(aa eH.out 1).trans rfl,(aa eH.out 2).trans rfl,(aa eH.out 3).trans rfl,(aa eH.out 4).trans rfl,(aa eH.out 5).trans rfl,(aa eH.out 6).trans rfl,(aa eH.out 7).trans rfl,(aa eH.out 8).trans rfl,(aa fM.out 0).trans rfl,(aa fM.out 1).trans rfl,(aa fM.out 2).trans rfl,(aa fM.out 3).trans rfl,(aa fM.out 4).trans rfl,(aa fM.out 5).trans rfl,(aa fM.out 6).trans rfl,(aa jM.out 0).trans rfl,(aa jM.out 1).trans rfl,(aa jM.out 2).trans rfl,(aa jM.out 3).trans rfl⟩ (fun hHeld=>?_);refine iM dw.agF dw.YM (fun bN jX=>?_)
  generalize w11.drew = MC at eH fM jM HB hHeld ⊢
  refine ja (i:=0) (N:=some 9) (bq bN.out jX.out aR) hHeld ?_
  refine ja (i:=1) (N:=some 10) (bq bN.out jX.out aR) hHeld ?_
  refine ja (i:=2) (N:=some 11) (bq bN.out jX.out aR) hHeld ?_
  refine ja (i:=3) (N:=some 12) (bq bN.out jX.out aR) hHeld ?_
  refine jq (i:=4) (N:=some 13) #[true,true,true,true,true,false,false,false,false,false,false,false,false,false,false,false] rfl rfl (fE bN.out aR) (by decide) (fun K hK=>?_)
  refine gV Try.func133 aR rfl #[.agg #[.int .i64 aj,.int .i64 ak,.int .i64 ax,.int .i64 ay,.int .i64 aJ,.int .i64 aC,.int .i64 aG,.slice dH aN.length dD,.slice dG av.length dE],.agg #[.int .i64 aU,.int .i64 aQ,.int .i64 aZ,.int .i64 bf,.int .i64 bE,.int .i64 bF,.int .i64 bG],.agg #[.int .i64 bP,.int .i64 bQ,.int .i64 bR,.int .i64 bS]] (by rfl) rfl rfl jJ ?_
  with_reducible refine (eB.calls k aj ak ax ay aJ aC aG _ _ aN _ _ av aU aQ aZ bf bE bF bG bP bQ bR bS Xg Xh Xi Xj _ ?dz ?dA ?dR ?dS A5.out).mono ?_
  (case dz=>repeat (first|exact (Kd.bn gq.out HB.out)|(with_reducible refine Kd.bA ?_ _)|(with_reducible refine Kd.bB ?_ _)|(with_reducible refine Kd.bK ?_)))
  (case dA=>exact gG.out)
  (case dR=>repeat (first|exact (Kd.bn fF.out HB.out)|(with_reducible refine Kd.bA ?_ _)|(with_reducible refine Kd.bB ?_ _)|(with_reducible refine Kd.bK ?_)))
  (case dS=>exact gH.out)
  rintro e w13 ⟨rfl,hb⟩
  refine ⟨_,rfl,?_⟩
  replace eH:=bC eH hb
  replace fM:=bC fM hb
  replace jM:=bC jM hb
  replace HB:=dF HB hb
  (try clear hb)
  (try clear hb2)
  (try clear hk)
  (try clear hi)
  refine hK.out _ _ ⟨(aa eH.out 0).trans rfl,(aa eH.out 1).trans rfl,(aa eH.out 2).trans rfl,(aa eH.out 3).trans rfl,(aa eH.out 4).trans rfl,(aa eH.out 5).trans rfl,(aa eH.out 6).trans rfl,(aa eH.out 7).trans rfl,(aa eH.out 8).trans rfl,(aa fM.out 0).trans rfl,(aa fM.out 1).trans rfl,(aa fM.out 2).trans rfl,(aa fM.out 3).trans rfl,(aa fM.out 4).trans rfl,(aa fM.out 5).trans rfl,(aa fM.out 6).trans rfl,(aa jM.out 0).trans rfl,(aa jM.out 1).trans rfl,(aa jM.out 2).trans rfl,(aa jM.out 3).trans rfl⟩ (fun hHeld=>?_)
  clear hK K
  refine ek WN ?_
  refine jq (i:=5) (N:=some 14) #[true,true,true,true,true,true,false,false,false,false,false,false,false,false,false,false] rfl rfl (fE bN.out aR) (by decide) (fun K hK=>?_)
  refine gV Try.func71 aR rfl #[.agg #[.int .i64 aj,.int .i64 ak,.int .i64 ax,.int .i64 ay,.int .i64 aJ,.int .i64 aC,.int .i64 aG,.slice dH aN.length dD,.slice dG av.length dE],.agg #[.int .i64 Xg,.int .i64 Xh,.int .i64 Xi,.int .i64 Xj]] (by rfl) rfl rfl jJ ?_
  with_reducible refine (iQ.calls aj ak ax ay aJ aC aG _ _ aN _ _ av Xg Xh Xi Xj true _ ?dz ?dA ?dR ?dS A6.out).mono ?_
  (case dz=>repeat (first|exact (Kd.bn gq.out HB.out)|(with_reducible refine Kd.bA ?_ _)|(with_reducible refine Kd.bB ?_ _)|(with_reducible refine Kd.bK ?_)))
  (case dA=>exact gG.out)
  (case dR=>repeat (first|exact (Kd.bn fF.out HB.out)|(with_reducible refine Kd.bA ?_ _)|(with_reducible refine Kd.bB ?_ _)|(with_reducible refine Kd.bK ?_)))
  (case dS=>exact gH.out)
  rintro e w14 ⟨rfl,hb⟩
  refine ⟨_,rfl,?_⟩
  replace eH:=bC eH hb
  replace fM:=bC fM hb
  replace jM:=bC jM hb
  replace HB:=dF HB hb
  (try clear hb)
  (try clear hb2)
  (try clear hk)
  (try clear hi)
  refine hK.out _ _ ⟨(aa eH.out 0).trans rfl,(aa eH.out 1).trans rfl,(aa eH.out 2).trans rfl,(aa eH.out 3).trans rfl,(aa eH.out 4).trans rfl,(aa eH.out 5).trans rfl,(aa eH.out 6).trans rfl,(aa eH.out 7).trans rfl,(aa eH.out 8).trans rfl,(aa fM.out 0).trans rfl,(aa fM.out 1).trans rfl,(aa fM.out 2).trans rfl,(aa fM.out 3).trans rfl,(aa fM.out 4).trans rfl,(aa fM.out 5).trans rfl,(aa fM.out 6).trans rfl,(aa jM.out 0).trans rfl,(aa jM.out 1).trans rfl,(aa jM.out 2).trans rfl,(aa jM.out 3).trans rfl⟩ (fun hHeld=>?_)
  clear hK K
  refine ek agq ?_
  refine dJ (i:=6) (N:=some 15) (aD bN.out aR) ?_
  refine dJ (i:=8) (N:=some 17) (aD bN.out aR) ?_
  refine dJ (i:=9) (N:=some 18) (aD bN.out aR) ?_
  refine dJ (i:=10) (N:=some 19) (aD bN.out aR) ?_
  refine ja (i:=7) (N:=some 16) (bq bN.out jX.out aR) hHeld ?_
  refine ja (i:=11) (N:=some 20) (bq bN.out jX.out aR) hHeld ?_
  refine dJ (i:=12) (N:=some 21) (aD bN.out aR) ?_
  refine jq (i:=13) (N:=some 22) #[true,true,true,true,true,true,true,true,true,true,true,true,true,true,false,false] rfl rfl (fE bN.out aR) (by decide) (fun K hK=>?_)
  refine gV Try.func72 aR rfl #[.agg #[.int .i64 aj,.int .i64 ak,.int .i64 ax,.int .i64 ay,.int .i64 aJ,.int .i64 aC,.int .i64 aG,.slice dH aN.length dD,.slice dG av.length dE],.int .i64 a3,.int .i64 (wrap64 (a3+aQ))] (by rfl) rfl rfl jJ ?_
  with_reducible refine (iw.calls aj ak ax ay aJ aC aG _ _ aN _ _ av a3 (wrap64 (a3+aQ)) Mo _ ?dz ?dA ?dR ?dS A8.out).mono ?_
  (case dz=>repeat (first|exact (Kd.bn gq.out HB.out)|(with_reducible refine Kd.bA ?_ _)|(with_reducible refine Kd.bB ?_ _)|(with_reducible refine Kd.bK ?_)))
  (case dA=>exact gG.out)
  (case dR=>repeat (first|exact (Kd.bn fF.out HB.out)|(with_reducible refine Kd.bA ?_ _)|(with_reducible refine Kd.bB ?_ _)|(with_reducible refine Kd.bK ?_)))
  (case dS=>exact gH.out)
  rintro e WW ⟨rfl,hb⟩
  refine ⟨_,rfl,?_⟩
  replace eH:=bC eH hb
  replace fM:=bC fM hb
  replace jM:=bC jM hb
  replace HB:=dF HB hb
  (try clear hb)
  (try clear hb2)
  (try clear hk)
  (try clear hi)
  refine hK.out _ _ ⟨(aa eH.out 0).trans rfl,(aa eH.out 1).trans rfl,(aa eH.out 2).trans rfl,(aa eH.out 3).trans rfl,(aa eH.out 4).trans rfl,(aa eH.out 5).trans rfl,(aa eH.out 6).trans rfl,(aa eH.out 7).trans rfl,(aa eH.out 8).trans rfl,(aa fM.out 0).trans rfl,(aa fM.out 1).trans rfl,(aa fM.out 2).trans rfl,(aa fM.out 3).trans rfl,(aa fM.out 4).trans rfl,(aa fM.out 5).trans rfl,(aa fM.out 6).trans rfl,(aa jM.out 0).trans rfl,(aa jM.out 1).trans rfl,(aa jM.out 2).trans rfl,(aa jM.out 3).trans rfl⟩ (fun hHeld=>?_)
  clear hK K
  refine ek (by show Act.put _ (some 22) _ = _;simp only [Act.put,List.setIfInBounds_toArray,List.set_cons_zero,List.set_cons_succ,fD,fJ];rfl) ?_
  refine dJ (i:=14) (N:=some 23) (aD bN.out aR) ?_
  refine dJ (i:=15) (N:=some 8) (aD bN.out aR) ?_
  refine lC (kF bN.out aR) ?_
  try go_wp2
  go_ret
  exact ⟨lJ,gM⟩
 ·replace c7:=Bool.eq_false_iff.mpr c7
  subst c7
  have H1:(some false) = some r:=by rw [if_neg (show ¬ (false = true) by decide)] at H;exact H
  clear H
  have H:=H1
  clear H1
  obtain rfl:=Option.some.inj H
  go_enter Try.func105,Try.ntmps105
  try go_wp2_with (first|((with_reducible refine aA (N:=4) rfl ?_);refine az (by rfl) (N:=4) (by rfl) (cs:=#[.int .i64 aj,.int .i64 ak,.int .i64 ax,.int .i64 ay,.int .i64 aJ,.int .i64 aC,.int .i64 aG,.slice dH aN.length dD,.slice dG av.length dE]) (t:=25) gQ ?_;intro sI hg w16 hbox hb;have eH:=ae.mk (hbox);have apE:=dn HB hg;have apF:=dn HB hg;replace HB:=dF HB hb;clear hb hbox hg)|((with_reducible refine aA (N:=5) rfl ?_);refine az (by rfl) (N:=5) (by rfl) (cs:=#[.int .i64 aU,.int .i64 aQ,.int .i64 aZ,.int .i64 bf,.int .i64 bE,.int .i64 bF,.int .i64 bG]) (t:=29) gQ ?_;intro xP hg Ac hbox hb;have fM:=ae.mk (hbox);have apG:=dn HB hg;have apH:=dn HB hg;have abP:=iE eH hg;have abQ:=iF eH hg;replace eH:=bC eH hb;replace HB:=dF HB hb;clear hb hbox hg)|((with_reducible refine aA (N:=6) rfl ?_);refine az (by rfl) (N:=6) (by rfl) (cs:=#[.int .i64 bP,.int .i64 bQ,.int .i64 bR,.int .i64 bS]) (t:=31) gQ ?_;intro Jh hg w18 hbox hb;have jM:=ae.mk (hbox);have apI:=dn HB hg;have apJ:=dn HB hg;have abR:=iE eH hg;have abS:=iF eH hg;have abT:=iE fM hg;have abU:=iF fM hg;replace eH:=bC eH hb;replace fM:=bC fM hb;replace HB:=dF HB hb;clear hb hbox hg))
  replace eH:=ae.mk (ah eH.out)
  replace fM:=ae.mk (ah fM.out)
  replace jM:=ae.mk (ah jM.out)
  replace HB:=ae.mk (bW HB.out)
  refine jI (n:=16) (S:=fun w'=>w'.cell? ⟨sI,0,none⟩ = some (.int .i64 aj)∧w'.cell? ⟨sI,1,none⟩ = some (.int .i64 ak)∧w'.cell? ⟨sI,2,none⟩ = some (.int .i64 ax)∧w'.cell? ⟨sI,3,none⟩ = some (.int .i64 ay)∧w'.cell? ⟨sI,4,none⟩ = some (.int .i64 aJ)∧w'.cell? ⟨sI,5,none⟩ = some (.int .i64 aC)∧w'.cell? ⟨sI,6,none⟩ = some (.int .i64 aG)∧w'.cell? ⟨sI,7,none⟩ = some (.slice dH aN.length dD)∧w'.cell? ⟨sI,8,none⟩ = some (.slice dG av.length dE)∧w'.cell? ⟨xP,0,none⟩ = some (.int .i64 aU)∧w'.cell? ⟨xP,1,none⟩ = some (.int .i64 aQ)∧w'.cell? ⟨xP,2,none⟩ = some (.int .i64 aZ)∧w'.cell? ⟨xP,3,none⟩ = some (.int .i64 bf)∧w'.cell? ⟨xP,4,none⟩ = some (.int .i64 bE)∧w'.cell? ⟨xP,5,none⟩ = some (.int .i64 bF)∧w'.cell? ⟨xP,6,none⟩ = some (.int .i64 bG)∧w'.cell? ⟨Jh,0,none⟩ = some (.int .i64 bP)∧w'.cell? ⟨Jh,1,none⟩ = some (.int .i64 bQ)∧w'.cell? ⟨Jh,2,none⟩ = some (.int .i64 bR)∧w'.cell? ⟨Jh,3,none⟩ = some (.int .i64 bS)) (ds:=[]) #[false,false,false,false,false,false,false,false,false,false,false,false,false,false,false,false] aR rfl rfl ⟨(aa eH.out 0).trans rfl,(aa eH.out 1).trans rfl,(aa eH.out 2).trans rfl,(aa eH.out 3).trans rfl,(aa eH.out 4).trans rfl,(aa eH.out 5).trans rfl,(aa eH.out 6).trans rfl,(aa eH.out 7).trans rfl,(aa eH.out 8).trans rfl,(aa fM.out 0).trans rfl,(aa fM.out 1).trans rfl,(aa fM.out 2).trans rfl,(aa fM.out 3).trans rfl,(aa fM.out 4).trans rfl,(aa fM.out 5).trans rfl,(aa fM.out 6).trans rfl,(aa jM.out 0).trans rfl,(aa jM.out 1).trans rfl,(aa jM.out 2).trans rfl,(aa jM.out 3).trans rfl⟩ (fun hHeld=>?_);refine iM dw.agF dw.YM (fun bN jX=>?_)
  generalize w18.drew = w19 at eH fM jM HB hHeld ⊢
  refine ja (i:=0) (N:=some 9) (bq bN.out jX.out aR) hHeld ?_
  refine ja (i:=1) (N:=some 10) (bq bN.out jX.out aR) hHeld ?_
  refine ja (i:=2) (N:=some 11) (bq bN.out jX.out aR) hHeld ?_
  refine ja (i:=3) (N:=some 12) (bq bN.out jX.out aR) hHeld ?_
  refine jq (i:=4) (N:=some 13) #[true,true,true,true,true,false,false,false,false,false,false,false,false,false,false,false] rfl rfl (fE bN.out aR) (by decide) (fun K hK=>?_)
  refine gV Try.func133 aR rfl #[.agg #[.int .i64 aj,.int .i64 ak,.int .i64 ax,.int .i64 ay,.int .i64 aJ,.int .i64 aC,.int .i64 aG,.slice dH aN.length dD,.slice dG av.length dE],.agg #[.int .i64 aU,.int .i64 aQ,.int .i64 aZ,.int .i64 bf,.int .i64 bE,.int .i64 bF,.int .i64 bG],.agg #[.int .i64 bP,.int .i64 bQ,.int .i64 bR,.int .i64 bS]] (by rfl) rfl rfl jJ ?_
  with_reducible refine (eB.calls k aj ak ax ay aJ aC aG _ _ aN _ _ av aU aQ aZ bf bE bF bG bP bQ bR bS Xg Xh Xi Xj _ ?dz ?dA ?dR ?dS A5.out).mono ?_
  (case dz=>repeat (first|exact (Kd.bn gq.out HB.out)|(with_reducible refine Kd.bA ?_ _)|(with_reducible refine Kd.bB ?_ _)|(with_reducible refine Kd.bK ?_)))
  (case dA=>exact gG.out)
  (case dR=>repeat (first|exact (Kd.bn fF.out HB.out)|(with_reducible refine Kd.bA ?_ _)|(with_reducible refine Kd.bB ?_ _)|(with_reducible refine Kd.bK ?_)))
  (case dS=>exact gH.out)
  rintro e D7 ⟨rfl,hb⟩
  refine ⟨_,rfl,?_⟩
  replace eH:=bC eH hb
  replace fM:=bC fM hb
  replace jM:=bC jM hb
  replace HB:=dF HB hb
  (try clear hb)
  (try clear hb2)
  (try clear hk)
  (try clear hi)
  refine hK.out _ _ ⟨(aa eH.out 0).trans rfl,(aa eH.out 1).trans rfl,(aa eH.out 2).trans rfl,(aa eH.out 3).trans rfl,(aa eH.out 4).trans rfl,(aa eH.out 5).trans rfl,(aa eH.out 6).trans rfl,(aa eH.out 7).trans rfl,(aa eH.out 8).trans rfl,(aa fM.out 0).trans rfl,(aa fM.out 1).trans rfl,(aa fM.out 2).trans rfl,(aa fM.out 3).trans rfl,(aa fM.out 4).trans rfl,(aa fM.out 5).trans rfl,(aa fM.out 6).trans rfl,(aa jM.out 0).trans rfl,(aa jM.out 1).trans rfl,(aa jM.out 2).trans rfl,(aa jM.out 3).trans rfl⟩ (fun hHeld=>?_)
  clear hK K
  refine ek WN ?_
  refine jq (i:=5) (N:=some 14) #[true,true,true,true,true,true,false,false,false,false,false,false,false,false,false,false] rfl rfl (fE bN.out aR) (by decide) (fun K hK=>?_)
  refine gV Try.func71 aR rfl #[.agg #[.int .i64 aj,.int .i64 ak,.int .i64 ax,.int .i64 ay,.int .i64 aJ,.int .i64 aC,.int .i64 aG,.slice dH aN.length dD,.slice dG av.length dE],.agg #[.int .i64 Xg,.int .i64 Xh,.int .i64 Xi,.int .i64 Xj]] (by rfl) rfl rfl jJ ?_
  with_reducible refine (iQ.calls aj ak ax ay aJ aC aG _ _ aN _ _ av Xg Xh Xi Xj false _ ?dz ?dA ?dR ?dS A6.out).mono ?_
  (case dz=>repeat (first|exact (Kd.bn gq.out HB.out)|(with_reducible refine Kd.bA ?_ _)|(with_reducible refine Kd.bB ?_ _)|(with_reducible refine Kd.bK ?_)))
  (case dA=>exact gG.out)
  (case dR=>repeat (first|exact (Kd.bn fF.out HB.out)|(with_reducible refine Kd.bA ?_ _)|(with_reducible refine Kd.bB ?_ _)|(with_reducible refine Kd.bK ?_)))
  (case dS=>exact gH.out)
  rintro e w21 ⟨rfl,hb⟩
  refine ⟨_,rfl,?_⟩
  replace eH:=bC eH hb
  replace fM:=bC fM hb
  replace jM:=bC jM hb
  replace HB:=dF HB hb
  (try clear hb)
  (try clear hb2)
  (try clear hk)
  (try clear hi)
  refine hK.out _ _ ⟨(aa eH.out 0).trans rfl,(aa eH.out 1).trans rfl,(aa eH.out 2).trans rfl,(aa eH.out 3).trans rfl,(aa eH.out 4).trans rfl,(aa eH.out 5).trans rfl,(aa eH.out 6).trans rfl,(aa eH.out 7).trans rfl,(aa eH.out 8).trans rfl,(aa fM.out 0).trans rfl,(aa fM.out 1).trans rfl,(aa fM.out 2).trans rfl,(aa fM.out 3).trans rfl,(aa fM.out 4).trans rfl,(aa fM.out 5).trans rfl,(aa fM.out 6).trans rfl,(aa jM.out 0).trans rfl,(aa jM.out 1).trans rfl,(aa jM.out 2).trans rfl,(aa jM.out 3).trans rfl⟩ (fun hHeld=>?_)
  clear hK K
  refine ek agq ?_
  refine dJ (i:=6) (N:=some 15) (aD bN.out aR) ?_
  refine mU (i:=7) (N:=some 16) (v:=undef) (a':=?_) #[true,true,true,true,true,true,true,true,false,false,false,false,false,false,false,false] rfl rfl (aD bN.out aR) (fun _ _ _ h=>h) (Or.inr ⟨by rfl,rfl⟩) ?_ ?_
  rotate_left
  ·simp only [Act.put,List.setIfInBounds_toArray,List.set_cons_zero,List.set_cons_succ,fD,fJ]
   rfl
  refine mU (i:=8) (N:=some 17) (v:=undef) (a':=?_) #[true,true,true,true,true,true,true,true,true,false,false,false,false,false,false,false] rfl rfl (aD bN.out aR) (fun _ _ _ h=>h) (Or.inr ⟨by rfl,rfl⟩) ?_ ?_
  rotate_left
  ·simp only [Act.put,List.setIfInBounds_toArray,List.set_cons_zero,List.set_cons_succ,fD,fJ]
   rfl
  refine mU (i:=9) (N:=some 18) (v:=undef) (a':=?_) #[true,true,true,true,true,true,true,true,true,true,false,false,false,false,false,false] rfl rfl (aD bN.out aR) (fun _ _ _ h=>h) (Or.inr ⟨by rfl,rfl⟩) ?_ ?_
  rotate_left
  ·simp only [Act.put,List.setIfInBounds_toArray,List.set_cons_zero,List.set_cons_succ,fD,fJ]
   rfl
  refine mU (i:=10) (N:=some 19) (v:=undef) (a':=?_) #[true,true,true,true,true,true,true,true,true,true,true,false,false,false,false,false] rfl rfl (aD bN.out aR) (fun _ _ _ h=>h) (Or.inr ⟨by rfl,rfl⟩) ?_ ?_
  rotate_left
  ·simp only [Act.put,List.setIfInBounds_toArray,List.set_cons_zero,List.set_cons_succ,fD,fJ]
   rfl
  refine mU (i:=11) (N:=some 20) (v:=undef) (a':=?_) #[true,true,true,true,true,true,true,true,true,true,true,true,false,false,false,false] rfl rfl (aD bN.out aR) (fun _ _ _ h=>h) (Or.inr ⟨by rfl,rfl⟩) ?_ ?_
  rotate_left
  ·simp only [Act.put,List.setIfInBounds_toArray,List.set_cons_zero,List.set_cons_succ,fD,fJ]
   rfl
  refine mU (i:=12) (N:=some 21) (v:=undef) (a':=?_) #[true,true,true,true,true,true,true,true,true,true,true,true,true,false,false,false] rfl rfl (aD bN.out aR) (fun _ _ _ h=>h) (Or.inr ⟨by rfl,rfl⟩) ?_ ?_
  rotate_left
  ·simp only [Act.put,List.setIfInBounds_toArray,List.set_cons_zero,List.set_cons_succ,fD,fJ]
   rfl
  refine mU (i:=13) (N:=some 22) (v:=undef) (a':=?_) #[true,true,true,true,true,true,true,true,true,true,true,true,true,true,false,false] rfl rfl (aD bN.out aR) (fun _ _ _ h=>h) (Or.inr ⟨by rfl,rfl⟩) ?_ ?_
  rotate_left
  ·simp only [Act.put,List.setIfInBounds_toArray,List.set_cons_zero,List.set_cons_succ,fD,fJ]
   rfl
  refine dJ (i:=14) (N:=some 23) (aD bN.out aR) ?_
  refine dJ (i:=15) (N:=some 8) (aD bN.out aR) ?_
  refine lC (kF bN.out aR) ?_
  try go_wp2
  go_ret
  exact ⟨lJ,gM⟩
end Go.Proofs.Ytmhaiihjfgfaoaa.Pr
end
section
namespace Go.Proofs.Ytmhaiihjfgfaoaa.Pr
open Go.RowKit Go.Proofs.YtmhaiihjfgfaoaaW.PrintWords Go.Proofs.YtmhaiihjfgfaoaaW.PrintLast Go.Proofs.YtmhaiihjfgfaoaaW.PrintMore
attribute [local go_sem] cz cB dK dL cK
set_option linter.unusedVariables false
set_option linter.unusedSimpArgs false
def bY.f (k:Nat) (aj:Int) (ak:Int) (a1:Int) (bP:Int) (bQ:Int) (a3:Int):Option (Int × Int):=(fu.f k (wrap64 ((wrap64 (a1+(wrap64 (1000*bP))))*a3)) 1000000).bind fun Sg=>((iy.f k (wrap64 ((wrap64 (a1+(wrap64 (1000*bQ))))*a3)) 1000000).bind fun Si=>(some (wrap64 (aj+Sg),wrap64 (ak+Si))))
def bY.T1:Bool × List (List Nat × List Nat):=(true,[([],[]),([0],[0]),([],[]),([],[]),([3],[3]),([4],[4]),([2,5],[2,5]),([],[]),([6,7],[6,7]),([8],[8]),([1,9],[1,9]),([],[]),([11],[11]),([],[]),([],[]),([14],[14]),([15],[15]),([13,16],[13,16]),([],[]),([17,18],[17,18]),([19,9],[19]),([12,20],[12,20]),([10,21],[10,21]),([22,20,0,1,2,3,4,5,6,7,8,9,10,11,12,13,14,15,16,17,18,19,20,21,22],[22])])
def bY.B1:List Nat:=[0,1,0,0,8,24,60,0,252,508,1023,0,2048,0,0,16384,49152,122880,0,516096,1041404,2096124,4194303,8388607]
theorem bY.agF:oQ .any (opsOf Try.f134 1) = bY.T1:=by kernel_rfl
theorem bY.YM:lI bY.T1.2 bY.B1 = true:=by kernel_rfl
set_option maxHeartbeats 8000000 in
set_option maxRecDepth 100000 in
theorem bY.calls (k:Nat) (aj:Int) (ak:Int) (a1:Int) (bP:Int) (bQ:Int) (a3:Int) (r1:Int) (r2:Int) (w:World) (h:bY.f k aj ak a1 bP bQ a3 = some (r1,r2)):
 Calls Try.prog 134 #[.agg #[.int .i64 aj,.int .i64 ak],.int .i64 a1,.agg #[.int .i64 bP,.int .i64 bQ],.int .i64 a3] w fun e w'=>e = .returned (.agg #[.int .i64 r1,.int .i64 r2])∧Below w.heap.size w w':=by
 have pK:=Try.underlying27
 have HB:=ae.mk (Below.refl w.heap.size w)
 have H:((fu.f k (wrap64 ((wrap64 (a1+(wrap64 (1000*bP))))*a3)) 1000000).bind fun Sg=>((iy.f k (wrap64 ((wrap64 (a1+(wrap64 (1000*bQ))))*a3)) 1000000).bind fun Si=>(some (wrap64 (aj+Sg),wrap64 (ak+Si))))) = some (r1,r2):=h
 clear h
 replace H:=Option.bind_eq_some_iff.mp H
 obtain ⟨Sg,OX,H⟩:=H
 replace H:((iy.f k (wrap64 ((wrap64 (a1+(wrap64 (1000*bQ))))*a3)) 1000000).bind fun Si=>(some (wrap64 (aj+Sg),wrap64 (ak+Si)))) = some (r1,r2):=H
 have A5:=ae.mk OX
 clear OX
 replace H:=Option.bind_eq_some_iff.mp H
 obtain ⟨Si,KI,H⟩:=H
 replace H:(some (wrap64 (aj+Sg),wrap64 (ak+Si))) = some (r1,r2):=H
 have A6:=ae.mk KI
 clear KI
 simp only [Option.some.injEq,Prod.mk.injEq] at H
 obtain ⟨rfl,rfl⟩:=H
 go_enter Try.func134,Try.ntmps134
 try go_wp2_with (first|((with_reducible refine aA (N:=4) rfl ?_);refine az (by rfl) (N:=4) (by rfl) (cs:=#[.int .i64 aj,.int .i64 ak]) (t:=27) gQ ?_;intro akR hg w7 hbox hb;have vJ:=ae.mk (hbox);have aFb:=dn HB hg;have aFc:=dn HB hg;replace HB:=dF HB hb;clear hb hbox hg)|((with_reducible refine aA (N:=6) rfl ?_);refine az (by rfl) (N:=6) (by rfl) (cs:=#[.int .i64 bP,.int .i64 bQ]) (t:=27) gQ ?_;intro akS hg w8 hbox hb;have Ag:=ae.mk (hbox);have aFd:=dn HB hg;have aFe:=dn HB hg;have aoi:=iE vJ hg;have aoj:=iF vJ hg;replace vJ:=bC vJ hb;replace HB:=dF HB hb;clear hb hbox hg)|((with_reducible refine aA (N:=8) rfl ?_);refine az (by rfl) (N:=8) (by rfl) (cs:=#[.int .i64 0,.int .i64 0]) (t:=27) gQ ?_;intro DF hg w9 hbox hb;have LY:=ae.mk (hbox);have aFf:=dn HB hg;have aFg:=dn HB hg;have xh:=iE vJ hg;have QH:=iF vJ hg;have xk:=iE Ag hg;have QI:=iF Ag hg;replace vJ:=bC vJ hb;replace Ag:=bC Ag hb;replace HB:=dF HB hb;clear hb hbox hg))
 replace vJ:=ae.mk (ah vJ.out)
 replace Ag:=ae.mk (ah Ag.out)
 replace LY:=ae.mk (ah LY.out)
 replace HB:=ae.mk (bW HB.out)
 refine jI (n:=24) (S:=fun w'=>w'.cell? ⟨akR,0,none⟩ = some (.int .i64 aj)∧w'.cell? ⟨akR,1,none⟩ = some (.int .i64 ak)∧w'.cell? ⟨akS,0,none⟩ = some (.int .i64 bP)∧w'.cell? ⟨akS,1,none⟩ = some (.int .i64 bQ)) (ds:=[]) #[false,false,false,false,false,false,false,false,false,false,false,false,false,false,false,false,false,false,false,false,false,false,false,false] aR rfl rfl ⟨(aa vJ.out 0).trans rfl,(aa vJ.out 1).trans rfl,(aa Ag.out 0).trans rfl,(aa Ag.out 1).trans rfl⟩ (fun hHeld=>?_);refine iM bY.agF bY.YM (fun bN jX=>?_)
 generalize w9.drew = w10 at vJ Ag LY HB hHeld ⊢
 refine dJ (i:=0) (N:=some 9) (aD bN.out aR) ?_
 refine dJ (i:=2) (N:=some 11) (aD bN.out aR) ?_
 refine dJ (i:=3) (N:=some 12) (aD bN.out aR) ?_
 refine dJ (i:=7) (N:=some 16) (aD bN.out aR) ?_
 refine dJ (i:=11) (N:=some 20) (aD bN.out aR) ?_
 refine dJ (i:=13) (N:=some 22) (aD bN.out aR) ?_
 refine dJ (i:=14) (N:=some 23) (aD bN.out aR) ?_
 refine dJ (i:=18) (N:=some 27) (aD bN.out aR) ?_
 refine ja (i:=1) (N:=some 10) (bq bN.out jX.out aR) hHeld ?_
 refine ja (i:=4) (N:=some 13) (bq bN.out jX.out aR) hHeld ?_
 refine dJ (i:=5) (N:=some 14) (aD bN.out aR) ?_
 refine dJ (i:=6) (N:=some 15) (aD bN.out aR) ?_
 refine dJ (i:=8) (N:=some 17) (aD bN.out aR) ?_
 refine ja (i:=12) (N:=some 21) (bq bN.out jX.out aR) hHeld ?_
 refine ja (i:=15) (N:=some 24) (bq bN.out jX.out aR) hHeld ?_
 refine dJ (i:=16) (N:=some 25) (aD bN.out aR) ?_
 refine dJ (i:=17) (N:=some 26) (aD bN.out aR) ?_
 refine dJ (i:=19) (N:=some 28) (aD bN.out aR) ?_
 refine jq (i:=9) (N:=some 18) #[true,true,true,true,true,true,true,true,true,true,false,true,true,true,true,true,true,true,true,true,false,false,false,false] rfl rfl (fE bN.out aR) (by decide) (fun K hK=>?_)
 refine gV Try.func140 aR rfl #[.int .i64 (wrap64 ((wrap64 (a1+(wrap64 (1000*bP))))*a3)),.int .i64 1000000] (by rfl) rfl rfl jJ ?_
 with_reducible refine (fu.calls k (wrap64 ((wrap64 (a1+(wrap64 (1000*bP))))*a3)) 1000000 Sg _ A5.out).mono ?_
 rintro e w' ⟨rfl,⟨nd,rfl⟩⟩
 refine ⟨_,rfl,?_⟩
 refine hK.out _ _ ⟨(aa vJ.out 0).trans rfl,(aa vJ.out 1).trans rfl,(aa Ag.out 0).trans rfl,(aa Ag.out 1).trans rfl⟩ (fun hHeld=>?_)
 clear hK K
 refine ek (by show Act.put _ (some 18) _ = _;simp only [Act.put,List.setIfInBounds_toArray,List.set_cons_zero,List.set_cons_succ,fD,fJ];rfl) ?_
 refine dJ (i:=10) (N:=some 19) (aD bN.out aR) ?_
 refine jq (i:=20) (N:=some 29) #[true,true,true,true,true,true,true,true,true,true,true,true,true,true,true,true,true,true,true,true,true,false,false,false] rfl rfl (fE bN.out aR) (by decide) (fun K hK=>?_)
 refine gV Try.func139 aR rfl #[.int .i64 (wrap64 ((wrap64 (a1+(wrap64 (1000*bQ))))*a3)),.int .i64 1000000] (by rfl) rfl rfl jJ ?_
 with_reducible refine (iy.calls k (wrap64 ((wrap64 (a1+(wrap64 (1000*bQ))))*a3)) 1000000 Si _ A6.out).mono ?_
 rintro e w' ⟨rfl,⟨nd,rfl⟩⟩
 refine ⟨_,rfl,?_⟩
 refine hK.out _ _ ⟨(aa vJ.out 0).trans rfl,(aa vJ.out 1).trans rfl,(aa Ag.out 0).trans rfl,(aa Ag.out 1).trans rfl⟩ (fun hHeld=>?_)
 clear hK K
 refine ek adx ?_
 refine dJ (i:=21) (N:=some 30) (aD bN.out aR) ?_
 refine dJ (i:=22) (N:=some 31) (aD bN.out aR) ?_
 refine jq (i:=23) (N:=none) #[true,true,true,true,true,true,true,true,true,true,true,true,true,true,true,true,true,true,true,true,true,true,true,true] rfl rfl (fE bN.out aR) (by decide) (fun K hK=>?_)
 have aIT:w10.cell? ⟨DF,0,none⟩ = some (.int .i64 0):=(aa LY.out 0).trans rfl
 have aFh:=aX LY.out 0
 have auY:=xh.out
 have auZ:=xk.out
 have au0:=QH.out
 have au1:=QI.out
 have aIU:w10.cell? ⟨DF,1,none⟩ = some (.int .i64 0):=(aa LY.out 1).trans rfl
 have aFi:=aX LY.out 1
 have au2:=xh.out
 have au3:=xk.out
 have au4:=QH.out
 have au5:=QI.out
 refine yc (w1:=?_) (by rfl) rfl ?_ ?_
 rotate_left
 ·go_simp
  rfl
 refine hK.out _ _ ⟨((cell_far (p:=⟨DF,_,none⟩) xh.out _).trans (((cell_far (p:=⟨DF,_,none⟩) xh.out _).trans (hHeld.1)))),((cell_far (p:=⟨DF,_,none⟩) xh.out _).trans (((cell_far (p:=⟨DF,_,none⟩) xh.out _).trans (hHeld.2.1)))),((cell_far (p:=⟨DF,_,none⟩) xk.out _).trans (((cell_far (p:=⟨DF,_,none⟩) xk.out _).trans (hHeld.2.2.1)))),((cell_far (p:=⟨DF,_,none⟩) xk.out _).trans (((cell_far (p:=⟨DF,_,none⟩) xk.out _).trans (hHeld.2.2.2))))⟩ (fun hHeld=>?_)
 clear hK K
 refine lC (kF bN.out aR) ?_
 try go_wp2
 refine bodyPost_ret (results_cell_row rfl _ _ DF 27 #[.int .i64 (wrap64 (aj+Sg)),.int .i64 (wrap64 (ak+Si))] (0,0) _ rfl (by (with_reducible repeat (first|refine au ?_ _|refine ah ?_|refine ag ?_ _));refine aI (cs:=#[.int .i64 (wrap64 (aj+Sg)),.int .i64 0]) ?_ 1 _ rfl;(with_reducible repeat (first|refine au ?_ _|refine ah ?_|refine ag ?_ _));refine aI (cs:=#[.int .i64 0,.int .i64 0]) ?_ 0 _ rfl;(with_reducible repeat (first|refine au ?_ _|refine ah ?_|refine ag ?_ _));exact LY.out) Try.underlying27 rfl aR) rfl ?_
 exact ⟨lJ,gM⟩
end Go.Proofs.Ytmhaiihjfgfaoaa.Pr
end
section
namespace Go.Proofs.Ytmhaiihjfgfaoaa.Pr
open Go.RowKit Go.Proofs.YtmhaiihjfgfaoaaW.PrintWords Go.Proofs.YtmhaiihjfgfaoaaW.PrintLast Go.Proofs.YtmhaiihjfgfaoaaW.PrintMore
attribute [local go_sem] cz cB dK dL cK
set_option linter.unusedVariables false
set_option linter.unusedSimpArgs false
def iB.f (a0:Int):Option (Int × Int):=(some (([0,707,1000,707,0,(-707),(-1000),(-707),0]:List Int):List Int)).bind fun G5=>((some (([1000,707,0,(-707),(-1000),(-707),0,707,0]:List Int):List Int)).bind fun Gv=>(if 0≤a0 then (if a0 < (G5.length:Int) then (if a0 < (Gv.length:Int) then (some (rd G5 a0,rd Gv a0)) else (none)) else (none)) else (none)))
set_option maxHeartbeats 8000000 in
set_option maxRecDepth 100000 in
theorem iB.calls (a0:Int) (r1:Int) (r2:Int) (w:World) (h:iB.f a0 = some (r1,r2)):
 Calls Try.prog 34 #[.int .i64 a0] w fun e w'=>e = .returned (.tuple #[.int .i64 r1,.int .i64 r2])∧Below w.heap.size w w':=by
 have HB:=ae.mk (Below.refl w.heap.size w)
 have H:((some (([0,707,1000,707,0,(-707),(-1000),(-707),0]:List Int):List Int)).bind fun G5=>((some (([1000,707,0,(-707),(-1000),(-707),0,707,0]:List Int):List Int)).bind fun Gv=>(if 0≤a0 then (if a0 < (G5.length:Int) then (if a0 < (Gv.length:Int) then (some (rd G5 a0,rd Gv a0)) else (none)) else (none)) else (none)))) = some (r1,r2):=h
 clear h
 obtain ⟨G5,U7⟩:∃ y_:List Int,y_ = (([0,707,1000,707,0,(-707),(-1000),(-707),0]:List Int)):=⟨_,rfl⟩
 replace H:((some (([1000,707,0,(-707),(-1000),(-707),0,707,0]:List Int):List Int)).bind fun Gv=>(if 0≤a0 then (if a0 < (G5.length:Int) then (if a0 < (Gv.length:Int) then (some (rd G5 a0,rd Gv a0)) else (none)) else (none)) else (none))) = some (r1,r2):=by first|(rw [U7];with_reducible exact H)|(have KU:=(Option.bind_some _ _).symm.trans H;rw [U7];with_reducible exact KU)|(have KU:=(Option.bind_some _ _).symm.trans H;with_reducible exact KU)|with_reducible exact H|(rw [U7];exact H)|exact H
 have QJ:=ae.mk U7
 clear U7
 obtain ⟨Gv,U8⟩:∃ y_:List Int,y_ = (([1000,707,0,(-707),(-1000),(-707),0,707,0]:List Int)):=⟨_,rfl⟩
 replace H:(if 0≤a0 then (if a0 < (G5.length:Int) then (if a0 < (Gv.length:Int) then (some (rd G5 a0,rd Gv a0)) else (none)) else (none)) else (none)) = some (r1,r2):=by first|(rw [U8];with_reducible exact H)|(have KU:=(Option.bind_some _ _).symm.trans H;rw [U8];with_reducible exact KU)|(have KU:=(Option.bind_some _ _).symm.trans H;with_reducible exact KU)|with_reducible exact H|(rw [U8];exact H)|exact H
 have QK:=ae.mk U8
 clear U8
 by_cases c2:0≤a0
 ·rw [if_pos c2] at H
  have U9:decide (0≤a0) = true:=decide_eq_true c2
  clear c2
  by_cases c3:a0 < (G5.length:Int)
  ·rw [if_pos c3] at H
   have Db:decide (a0 < (G5.length:Int)) = true:=decide_eq_true c3
   clear c3
   by_cases c4:a0 < (Gv.length:Int)
   ·rw [if_pos c4] at H
    have rW:decide (a0 < (Gv.length:Int)) = true:=decide_eq_true c4
    clear c4
    simp only [Option.some.injEq,Prod.mk.injEq] at H
    obtain ⟨rfl,rfl⟩:=H
    go_enter Try.func34,Try.ntmps34
    go_wp2_with (first|((with_reducible refine aA (N:=6) rfl ?_);refine Kd.Dh (Kd.int .i64) _ 2 (by rfl) (N:=6) (by rfl) (xs:=([0,707,1000,707,0,(-707),(-1000),(-707),0]:List Int)) (inner:=[.int .i64 0,.int .i64 707,.int .i64 1000,.int .i64 707,.int .i64 0,.int .i64 (-707),.int .i64 (-1000),.int .i64 (-707),.int .i64 0]) (ok:=fun _=>True) (okp:=fun _=>True) gQ ana (fun _ hk=>hk) trivial (Below.refl _ _) (Nat.le_refl _) (by simp) ?_;intro apK w5 Ph hb PV qy;clear PV qy;(first|rw [← QJ.out] at Ph|(simp only [Int.reduceToNat] at Ph;rw [← QJ.out] at Ph));have C8:=ae.mk (Kd.lH Ph (iG gM));replace HB:=dF HB hb;clear hb Ph)|((with_reducible refine aA (N:=7) rfl ?_);refine Kd.Dh (Kd.int .i64) _ 2 (by rfl) (N:=7) (by rfl) (xs:=([1000,707,0,(-707),(-1000),(-707),0,707,0]:List Int)) (inner:=[.int .i64 1000,.int .i64 707,.int .i64 0,.int .i64 (-707),.int .i64 (-1000),.int .i64 (-707),.int .i64 0,.int .i64 707,.int .i64 0]) (ok:=fun _=>True) (okp:=fun _=>True) gQ anb (fun _ hk=>hk) trivial (Below.refl _ _) (Nat.le_refl _) (by simp) ?_;intro apL w7 QL hb PV qy;clear PV qy;(first|rw [← QK.out] at QL|(simp only [Int.reduceToNat] at QL;rw [← QK.out] at QL));have LZ:=ae.mk (Kd.lH (Kd.OH QL (Kd.abg abV)) (iG gM));replace C8:=ae.mk (Kd.Di abV (Kd.OG QL) hb);replace HB:=dF HB hb;clear hb QL;obtain ⟨Ao9,co9,eo9⟩:=Kd.ma C8.out;subst eo9;have Pj:0≤(a0:Int):=of_decide_eq_true lX;have Pk:a0 < (G5.length:Int):=of_decide_eq_true lX;obtain ⟨akT,aej,YN⟩:=Kd.GL (Kd.iL C8.out).2.2 a0 Pj Pk;cases aej;replace Pj:=eq_true Pj;replace Pk:=eq_true Pk;obtain ⟨apN,apO,aek⟩:=Kd.ma LZ.out;subst aek;have Pm:0≤(a0:Int):=of_decide_eq_true lX;have Pn:a0 < (Gv.length:Int):=of_decide_eq_true lX;obtain ⟨akU,ael,YO⟩:=Kd.GL (Kd.iL LZ.out).2.2 a0 Pm Pn;cases ael;replace Pm:=eq_true Pm;replace Pn:=eq_true Pn))
    repeat (go_quiet (first|((with_reducible refine aA (N:=6) rfl ?_);refine Kd.Dh (Kd.int .i64) _ 2 (by rfl) (N:=6) (by rfl) (xs:=([0,707,1000,707,0,(-707),(-1000),(-707),0]:List Int)) (inner:=[.int .i64 0,.int .i64 707,.int .i64 1000,.int .i64 707,.int .i64 0,.int .i64 (-707),.int .i64 (-1000),.int .i64 (-707),.int .i64 0]) (ok:=fun _=>True) (okp:=fun _=>True) gQ ana (fun _ hk=>hk) trivial (Below.refl _ _) (Nat.le_refl _) (by simp) ?_;intro apK w5 Ph hb PV qy;clear PV qy;(first|rw [← QJ.out] at Ph|(simp only [Int.reduceToNat] at Ph;rw [← QJ.out] at Ph));have C8:=ae.mk (Kd.lH Ph (iG gM));replace HB:=dF HB hb;clear hb Ph)|((with_reducible refine aA (N:=7) rfl ?_);refine Kd.Dh (Kd.int .i64) _ 2 (by rfl) (N:=7) (by rfl) (xs:=([1000,707,0,(-707),(-1000),(-707),0,707,0]:List Int)) (inner:=[.int .i64 1000,.int .i64 707,.int .i64 0,.int .i64 (-707),.int .i64 (-1000),.int .i64 (-707),.int .i64 0,.int .i64 707,.int .i64 0]) (ok:=fun _=>True) (okp:=fun _=>True) gQ anb (fun _ hk=>hk) trivial (Below.refl _ _) (Nat.le_refl _) (by simp) ?_;intro apL w7 QL hb PV qy;clear PV qy;(first|rw [← QK.out] at QL|(simp only [Int.reduceToNat] at QL;rw [← QK.out] at QL));have LZ:=ae.mk (Kd.lH (Kd.OH QL (Kd.abg abV)) (iG gM));replace C8:=ae.mk (Kd.Di abV (Kd.OG QL) hb);replace HB:=dF HB hb;clear hb QL;obtain ⟨Ao9,co9,eo9⟩:=Kd.ma C8.out;subst eo9;have Pj:0≤(a0:Int):=of_decide_eq_true lX;have Pk:a0 < (G5.length:Int):=of_decide_eq_true lX;obtain ⟨akT,aej,YN⟩:=Kd.GL (Kd.iL C8.out).2.2 a0 Pj Pk;cases aej;replace Pj:=eq_true Pj;replace Pk:=eq_true Pk;obtain ⟨apN,apO,aek⟩:=Kd.ma LZ.out;subst aek;have Pm:0≤(a0:Int):=of_decide_eq_true lX;have Pn:a0 < (Gv.length:Int):=of_decide_eq_true lX;obtain ⟨akU,ael,YO⟩:=Kd.GL (Kd.iL LZ.out).2.2 a0 Pm Pn;cases ael;replace Pm:=eq_true Pm;replace Pn:=eq_true Pn));try go_wp2_with (first|((with_reducible refine aA (N:=6) rfl ?_);refine Kd.Dh (Kd.int .i64) _ 2 (by rfl) (N:=6) (by rfl) (xs:=([0,707,1000,707,0,(-707),(-1000),(-707),0]:List Int)) (inner:=[.int .i64 0,.int .i64 707,.int .i64 1000,.int .i64 707,.int .i64 0,.int .i64 (-707),.int .i64 (-1000),.int .i64 (-707),.int .i64 0]) (ok:=fun _=>True) (okp:=fun _=>True) gQ ana (fun _ hk=>hk) trivial (Below.refl _ _) (Nat.le_refl _) (by simp) ?_;intro apK w5 Ph hb PV qy;clear PV qy;(first|rw [← QJ.out] at Ph|(simp only [Int.reduceToNat] at Ph;rw [← QJ.out] at Ph));have C8:=ae.mk (Kd.lH Ph (iG gM));replace HB:=dF HB hb;clear hb Ph)|((with_reducible refine aA (N:=7) rfl ?_);refine Kd.Dh (Kd.int .i64) _ 2 (by rfl) (N:=7) (by rfl) (xs:=([1000,707,0,(-707),(-1000),(-707),0,707,0]:List Int)) (inner:=[.int .i64 1000,.int .i64 707,.int .i64 0,.int .i64 (-707),.int .i64 (-1000),.int .i64 (-707),.int .i64 0,.int .i64 707,.int .i64 0]) (ok:=fun _=>True) (okp:=fun _=>True) gQ anb (fun _ hk=>hk) trivial (Below.refl _ _) (Nat.le_refl _) (by simp) ?_;intro apL w7 QL hb PV qy;clear PV qy;(first|rw [← QK.out] at QL|(simp only [Int.reduceToNat] at QL;rw [← QK.out] at QL));have LZ:=ae.mk (Kd.lH (Kd.OH QL (Kd.abg abV)) (iG gM));replace C8:=ae.mk (Kd.Di abV (Kd.OG QL) hb);replace HB:=dF HB hb;clear hb QL;obtain ⟨Ao9,co9,eo9⟩:=Kd.ma C8.out;subst eo9;have Pj:0≤(a0:Int):=of_decide_eq_true lX;have Pk:a0 < (G5.length:Int):=of_decide_eq_true lX;obtain ⟨akT,aej,YN⟩:=Kd.GL (Kd.iL C8.out).2.2 a0 Pj Pk;cases aej;replace Pj:=eq_true Pj;replace Pk:=eq_true Pk;obtain ⟨apN,apO,aek⟩:=Kd.ma LZ.out;subst aek;have Pm:0≤(a0:Int):=of_decide_eq_true lX;have Pn:a0 < (Gv.length:Int):=of_decide_eq_true lX;obtain ⟨akU,ael,YO⟩:=Kd.GL (Kd.iL LZ.out).2.2 a0 Pm Pn;cases ael;replace Pm:=eq_true Pm;replace Pn:=eq_true Pn)))
    go_ret2
    exact ⟨lJ,gM⟩
   ·rw [if_neg c4] at H
    exact absurd H (by simp)
  ·rw [if_neg c3] at H
   exact absurd H (by simp)
 ·rw [if_neg c2] at H
  exact absurd H (by simp)
end Go.Proofs.Ytmhaiihjfgfaoaa.Pr
end
section
namespace Go.Proofs.Ytmhaiihjfgfaoaa.Pr
open Go.RowKit Go.Proofs.YtmhaiihjfgfaoaaW.PrintWords Go.Proofs.YtmhaiihjfgfaoaaW.PrintLast Go.Proofs.YtmhaiihjfgfaoaaW.PrintMore
attribute [local go_sem] cz cB dK dL cK
set_option linter.unusedVariables false
set_option linter.unusedSimpArgs false
def fQ.f (aj:Int) (ak:Int) (aU:Int) (aQ:Int):Option (Bool):=if aj≤aQ then (some (decide (aU≤ak))) else (some false)
set_option maxHeartbeats 8000000 in
set_option maxRecDepth 100000 in
theorem fQ.calls (aj:Int) (ak:Int) (aU:Int) (aQ:Int) (r:Bool) (w:World) (h:fQ.f aj ak aU aQ = some r):
 Calls Try.prog 132 #[.agg #[.int .i64 aj,.int .i64 ak],.agg #[.int .i64 aU,.int .i64 aQ]] w fun e w'=>e = .returned (.bool r)∧Below w.heap.size w w':=by
 have pK:=Try.underlying27
 have HB:=ae.mk (Below.refl w.heap.size w)
 have H:(if aj≤aQ then (some (decide (aU≤ak))) else (some false)) = some r:=h
 clear h
 by_cases c3:aj≤aQ
 ·rw [if_pos c3] at H
  have Db:decide (aj≤aQ) = true:=decide_eq_true c3
  clear c3
  obtain rfl:=Option.some.inj H
  go_enter Try.func132,Try.ntmps132
  go_wp2_with (first|((with_reducible refine aA (N:=2) rfl ?_);refine az (by rfl) (N:=2) (by rfl) (cs:=#[.int .i64 aj,.int .i64 ak]) (t:=27) gQ ?_;intro apP hg w4 hbox hb;have DI:=ae.mk (hbox);have apQ:=dn HB hg;have apR:=dn HB hg;replace HB:=dF HB hb;clear hb hbox hg)|((with_reducible refine aA (N:=3) rfl ?_);refine az (by rfl) (N:=3) (by rfl) (cs:=#[.int .i64 aU,.int .i64 aQ]) (t:=27) gQ ?_;intro apS hg w5 hbox hb;have aem:=ae.mk (hbox);have apT:=dn HB hg;have apU:=dn HB hg;have Lc:=iE DI hg;have Ld:=iF DI hg;replace DI:=bC DI hb;replace HB:=dF HB hb;clear hb hbox hg;have anc:=Lc.out;have ane:=Ld.out;obtain ⟨xI,xJ,xK,xL⟩:=nE DI.out;obtain ⟨GQ,GR,GU,GV⟩:=nE aem.out))
  go_ret
  exact ⟨lJ,gM⟩
 ·rw [if_neg c3] at H
  have Db:decide (aj≤aQ) = false:=decide_eq_false c3
  clear c3
  obtain rfl:=Option.some.inj H
  go_enter Try.func132,Try.ntmps132
  go_wp2_with (first|((with_reducible refine aA (N:=2) rfl ?_);refine az (by rfl) (N:=2) (by rfl) (cs:=#[.int .i64 aj,.int .i64 ak]) (t:=27) gQ ?_;intro apP hg w9 hbox hb;have DI:=ae.mk (hbox);have apQ:=dn HB hg;have apR:=dn HB hg;replace HB:=dF HB hb;clear hb hbox hg)|((with_reducible refine aA (N:=3) rfl ?_);refine az (by rfl) (N:=3) (by rfl) (cs:=#[.int .i64 aU,.int .i64 aQ]) (t:=27) gQ ?_;intro apS hg w10 hbox hb;have aem:=ae.mk (hbox);have apT:=dn HB hg;have apU:=dn HB hg;have Lc:=iE DI hg;have Ld:=iF DI hg;replace DI:=bC DI hb;replace HB:=dF HB hb;clear hb hbox hg;have Us:=Lc.out;have Ut:=Ld.out;obtain ⟨uS,uT,uU,uV⟩:=nE DI.out;obtain ⟨uW,uX,uY,uZ⟩:=nE aem.out))
  go_ret
  exact ⟨lJ,gM⟩
end Go.Proofs.Ytmhaiihjfgfaoaa.Pr
end
section
namespace Go.Proofs.Ytmhaiihjfgfaoaa.Pr
open Go.RowKit Go.Proofs.YtmhaiihjfgfaoaaW.PrintWords Go.Proofs.YtmhaiihjfgfaoaaW.PrintLast Go.Proofs.YtmhaiihjfgfaoaaW.PrintMore
attribute [local go_sem] cz cB dK dL cK
set_option linter.unusedVariables false
set_option linter.unusedSimpArgs false
def eu.f (aj:Int) (ak:Int) (ax:Int) (ay:Int) (aU:Int) (aQ:Int) (aZ:Int) (bf:Int):Option (Bool):=(fQ.f aj ak aU aQ).bind fun abW=>(if abW = true then ((fQ.f ax ay aZ bf).bind fun P8=>(some P8)) else (some false))
set_option maxHeartbeats 8000000 in
set_option maxRecDepth 100000 in
theorem eu.calls (aj:Int) (ak:Int) (ax:Int) (ay:Int) (aU:Int) (aQ:Int) (aZ:Int) (bf:Int) (r:Bool) (w:World) (h:eu.f aj ak ax ay aU aQ aZ bf = some r):
 Calls Try.prog 104 #[.agg #[.int .i64 aj,.int .i64 ak,.int .i64 ax,.int .i64 ay],.agg #[.int .i64 aU,.int .i64 aQ,.int .i64 aZ,.int .i64 bf]] w fun e w'=>e = .returned (.bool r)∧Below w.heap.size w w':=by
 have qP:=Try.underlying31
 have pK:=Try.underlying27
 have HB:=ae.mk (Below.refl w.heap.size w)
 have H:((fQ.f aj ak aU aQ).bind fun abW=>(if abW = true then ((fQ.f ax ay aZ bf).bind fun P8=>(some P8)) else (some false))) = some r:=h
 clear h
 replace H:=Option.bind_eq_some_iff.mp H
 obtain ⟨abW,QA,H⟩:=H
 replace H:(if abW = true then ((fQ.f ax ay aZ bf).bind fun P8=>(some P8)) else (some false)) = some r:=H
 have A3:=ae.mk QA
 clear QA
 by_cases c4:abW = true
 ·subst c4
  have H1:((fQ.f ax ay aZ bf).bind fun P8=>(some P8)) = some r:=by rw [if_pos rfl] at H;exact H
  clear H
  have H:=H1
  clear H1
  replace H:=Option.bind_eq_some_iff.mp H
  obtain ⟨P8,OX,H⟩:=H
  replace H:(some P8) = some r:=H
  have A5:=ae.mk OX
  clear OX
  obtain rfl:=Option.some.inj H
  go_enter Try.func104,Try.ntmps104
  go_wp2_with (first|((with_reducible refine aA (N:=2) rfl ?_);refine az (by rfl) (N:=2) (by rfl) (cs:=#[.int .i64 aj,.int .i64 ak,.int .i64 ax,.int .i64 ay]) (t:=31) gQ ?_;intro apV hg w6 hbox hb;have uw:=ae.mk (hbox);have apW:=dn HB hg;have apX:=dn HB hg;replace HB:=dF HB hb;clear hb hbox hg)|((with_reducible refine aA (N:=3) rfl ?_);refine az (by rfl) (N:=3) (by rfl) (cs:=#[.int .i64 aU,.int .i64 aQ,.int .i64 aZ,.int .i64 bf]) (t:=31) gQ ?_;intro apY hg w7 hbox hb;have GH:=ae.mk (hbox);have apZ:=dn HB hg;have ap0:=dn HB hg;have Le:=iE uw hg;have Lf:=iF uw hg;replace uw:=bC uw hb;replace HB:=dF HB hb;clear hb hbox hg;have agB:=Le.out;have agC:=Lf.out;obtain ⟨Dr,Dt,K7,K8,Du,Dv,K9,La⟩:=iC uw.out;obtain ⟨wL,wM,Jc,Jd,wN,wO,Je,Jf⟩:=iC GH.out)|((with_reducible refine aW (f:=132) rfl ?_);refine dM (some 9) rfl rfl Try.func132 aR rfl #[.agg #[.int .i64 aj,.int .i64 ak],.agg #[.int .i64 aU,.int .i64 aQ]] rfl jJ ?_;(with_reducible refine (fQ.calls aj ak aU aQ true _ A3.out).mono ?_);rintro e w11 ⟨rfl,hb⟩;refine ⟨_,rfl,?_⟩;replace uw:=bC uw hb;replace GH:=bC GH hb;replace HB:=dF HB hb;(try clear hb);(try clear hb2);(try clear hk);(try clear hi);obtain ⟨uS,uT,Ij,Ik,uU,uV,Il,Im⟩:=iC uw.out;obtain ⟨uW,uX,Bt,Bu,uY,uZ,Bv,Bw⟩:=iC GH.out)|(go_at_call 132;(with_reducible refine (fQ.calls ax ay aZ bf P8 _ A5.out).mono ?_);rintro e w14 ⟨rfl,hb⟩;replace uw:=bC uw hb;replace GH:=bC GH hb;replace HB:=dF HB hb;(try clear hb);(try clear hb2);(try clear hk);(try clear hi)))
  go_ret
  exact ⟨lJ,gM⟩
 ·replace c4:=Bool.eq_false_iff.mpr c4
  subst c4
  have H1:(some false) = some r:=by rw [if_neg (show ¬ (false = true) by decide)] at H;exact H
  clear H
  have H:=H1
  clear H1
  obtain rfl:=Option.some.inj H
  go_enter Try.func104,Try.ntmps104
  go_wp2_with (first|((with_reducible refine aA (N:=2) rfl ?_);refine az (by rfl) (N:=2) (by rfl) (cs:=#[.int .i64 aj,.int .i64 ak,.int .i64 ax,.int .i64 ay]) (t:=31) gQ ?_;intro apV hg WW hbox hb;have uw:=ae.mk (hbox);have apW:=dn HB hg;have apX:=dn HB hg;replace HB:=dF HB hb;clear hb hbox hg)|((with_reducible refine aA (N:=3) rfl ?_);refine az (by rfl) (N:=3) (by rfl) (cs:=#[.int .i64 aU,.int .i64 aQ,.int .i64 aZ,.int .i64 bf]) (t:=31) gQ ?_;intro apY hg w16 hbox hb;have GH:=ae.mk (hbox);have apZ:=dn HB hg;have ap0:=dn HB hg;have Le:=iE uw hg;have Lf:=iF uw hg;replace uw:=bC uw hb;replace HB:=dF HB hb;clear hb hbox hg;have QM:=Le.out;have QN:=Lf.out;obtain ⟨si,sj,su,sw,sD,sF,sG,sH⟩:=iC uw.out;obtain ⟨yx,yz,BR,BS,yA,yB,BU,BV⟩:=iC GH.out)|((with_reducible refine aW (f:=132) rfl ?_);refine dM (some 9) rfl rfl Try.func132 aR rfl #[.agg #[.int .i64 aj,.int .i64 ak],.agg #[.int .i64 aU,.int .i64 aQ]] rfl jJ ?_;(with_reducible refine (fQ.calls aj ak aU aQ false _ A3.out).mono ?_);rintro e D7 ⟨rfl,hb⟩;refine ⟨_,rfl,?_⟩;replace uw:=bC uw hb;replace GH:=bC GH hb;replace HB:=dF HB hb;(try clear hb);(try clear hb2);(try clear hk);(try clear hi)))
  go_ret
  exact ⟨lJ,gM⟩
end Go.Proofs.Ytmhaiihjfgfaoaa.Pr
end
