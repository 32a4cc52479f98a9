import Derived.Test.YtmhaiihjfgfaoaaGhGliderHolds3
import Derived.Test.YtmhaiihjfgfaoaaGhGliderHolds17
import Derived.Test.YtmhaiihjfgfaoaaGhGliderHolds18
import Derived.Test.YtmhaiihjfgfaoaaGhGliderHolds20
section
namespace Go.Proofs.Ytmhaiihjfgfaoaa.Pr
open Go.RowKit Go.Proofs.YtmhaiihjfgfaoaaW.PrintWords Go.Proofs.YtmhaiihjfgfaoaaW.PrintLast Go.Proofs.YtmhaiihjfgfaoaaW.PrintMore
attribute [local go_sem] cz cB dK dL cK
set_option linter.unusedVariables false
set_option linter.unusedSimpArgs false
def bU.f (k:Nat) (aj:Int) (ak:Int) (ax:Int) (ay:Int) (aJ:Int) (aC:Int) (aG:Int) (aN:List Bool) (av:List (nU)) (aU:Int) (aQ:Int) (aZ:Int) (bf:Int) (bE:Int) (bF:Int) (bG:Int) (bP:Int) (bQ:Int) (bR:Int) (bS:Int) (a3:Int) (nY:Int) (mH:Int):Option (Int × Int × Int × Int):=(iB.f nY).bind fun Vl=>((eB.f k aj ak ax ay aJ aC aG aN av aU aQ aZ bf bE bF bG bP bQ bR bS).bind fun yS=>((aT.f k aj ak ax ay aJ aC aG aN av yS.1 yS.2.1 yS.2.2.1 yS.2.2.2 mH a3 (wrap64 (a3+aQ))).bind fun sS=>((bY.f k bP bQ (wrap64 (Vl.1*aU)) sS.1 sS.2.1 aQ).bind fun yT=>((bY.f k bR bS (wrap64 (Vl.2*aU)) sS.2.2.1 sS.2.2.2 aQ).bind fun vM=>(some (yT.1,yT.2,vM.1,vM.2))))))
def bU.T2:Bool × List (List Nat × List Nat):=(true,[([],[]),([],[]),([],[]),([],[]),([1,2,3],[1,2,3]),([],[]),([5],[5]),([],[]),([],[]),([],[]),([9],[9]),([8,10],[8,10]),([0,4,6,7,11,4],[0,4,6,7,11]),([],[]),([13,12,12,0,1,2,3,4,5,6,7,8,9,10,11,12,13],[12,13])])
def bU.B2:List Nat:=[0,0,0,0,14,0,32,0,0,0,512,1792,4095,0,16383]
theorem bU.amL:oQ .any (opsOf Try.f106 2) = bU.T2:=by kernel_rfl
theorem bU.adR:lI bU.T2.2 bU.B2 = true:=by kernel_rfl
def bU.T3:Bool × List (List Nat × List Nat):=(true,[([],[]),([0],[0]),([],[]),([],[]),([3],[3]),([2,4],[2,4]),([],[]),([6],[6]),([],[]),([8],[8]),([1,5,7,9],[1,5,7,9]),([],[]),([11],[11]),([],[]),([],[]),([14],[14]),([13,15],[13,15]),([],[]),([17],[17]),([],[]),([19],[19]),([12,16,18,20,10],[12,16,18,20]),([10,21],[10,21]),([22,21,0,1,2,3,4,5,6,7,8,9,10,11,12,13,14,15,16,17,18,19,20,21,22],[22])])
def bU.B3:List Nat:=[0,1,0,0,8,28,0,64,0,256,1023,0,2048,0,0,16384,57344,0,131072,0,524288,2097151,4194303,8388607]
theorem bU.aDe:oQ .any (opsOf Try.f106 3) = bU.T3:=by kernel_rfl
theorem bU.aqz:lI bU.T3.2 bU.B3 = true:=by kernel_rfl
set_option maxHeartbeats 8000000 in
set_option maxRecDepth 100000 in
theorem bU.calls (k:Nat) (aj:Int) (ak:Int) (ax:Int) (ay:Int) (aJ:Int) (aC:Int) (aG:Int) (dH:Option Addr) (dD:Nat) (aN:List Bool) (dG:Option Addr) (dE:Nat) (av:List (nU)) (aU:Int) (aQ:Int) (aZ:Int) (bf:Int) (bE:Int) (bF:Int) (bG:Int) (bP:Int) (bQ:Int) (bR:Int) (bS:Int) (a3:Int) (nY:Int) (mH:Int) (r1:Int) (r2:Int) (r3:Int) (r4:Int) (w:World) (iW:Kd.C Kd.bool w dH aN.length aN) (iX:aN.length≤dD) (iY:Kd.C CY w dG av.length av) (iZ:av.length≤dE) (h:bU.f k aj ak ax ay aJ aC aG aN av aU aQ aZ bf bE bF bG bP bQ bR bS a3 nY mH = some (r1,r2,r3,r4)):
 Calls Try.prog 106 #[.agg #[.int .i64 aj,.int .i64 ak,.int .i64 ax,.int .i64 ay,.int .i64 aJ,.int .i64 aC,.int .i64 aG,.slice dH aN.length dD,.slice dG av.length dE],.agg #[.int .i64 aU,.int .i64 aQ,.int .i64 aZ,.int .i64 bf,.int .i64 bE,.int .i64 bF,.int .i64 bG],.agg #[.int .i64 bP,.int .i64 bQ,.int .i64 bR,.int .i64 bS],.int .i64 a3,.agg #[.int .i64 nY,.int .i64 mH]] w fun e w'=>e = .returned (.agg #[.int .i64 r1,.int .i64 r2,.int .i64 r3,.int .i64 r4])∧Below w.heap.size w w':=by
 have xE:=Try.underlying25
 have BL:=Try.underlying29
 have qP:=Try.underlying31
 have Rs:=Try.underlying33
 have aer:=Try.underlying40
 have pK:=Try.underlying27
 have gq:=ae.mk iW
 have gG:=ae.mk iX
 clear iW iX
 have fF:=ae.mk iY
 have gH:=ae.mk iZ
 clear iY iZ
 have HB:=ae.mk (Below.refl w.heap.size w)
 have H:((iB.f nY).bind fun Vl=>((eB.f k aj ak ax ay aJ aC aG aN av aU aQ aZ bf bE bF bG bP bQ bR bS).bind fun yS=>((aT.f k aj ak ax ay aJ aC aG aN av yS.1 yS.2.1 yS.2.2.1 yS.2.2.2 mH a3 (wrap64 (a3+aQ))).bind fun sS=>((bY.f k bP bQ (wrap64 (Vl.1*aU)) sS.1 sS.2.1 aQ).bind fun yT=>((bY.f k bR bS (wrap64 (Vl.2*aU)) sS.2.2.1 sS.2.2.2 aQ).bind fun vM=>(some (yT.1,yT.2,vM.1,vM.2))))))) = some (r1,r2,r3,r4):=h
 clear h
 replace H:=Option.bind_eq_some_iff.mp H
 obtain ⟨⟨aca,Xp⟩,KI,H⟩:=H
 replace H:((eB.f k aj ak ax ay aJ aC aG aN av aU aQ aZ bf bE bF bG bP bQ bR bS).bind fun yS=>((aT.f k aj ak ax ay aJ aC aG aN av yS.1 yS.2.1 yS.2.2.1 yS.2.2.2 mH a3 (wrap64 (a3+aQ))).bind fun sS=>((bY.f k bP bQ (wrap64 (aca*aU)) sS.1 sS.2.1 aQ).bind fun yT=>((bY.f k bR bS (wrap64 (Xp*aU)) sS.2.2.1 sS.2.2.2 aQ).bind fun vM=>(some (yT.1,yT.2,vM.1,vM.2)))))) = some (r1,r2,r3,r4):=H
 have A6:=ae.mk KI
 clear KI
 replace H:=Option.bind_eq_some_iff.mp H
 obtain ⟨⟨Qg,Qh,Qi,Qj⟩,A70,H⟩:=H
 replace H:((aT.f k aj ak ax ay aJ aC aG aN av Qg Qh Qi Qj mH a3 (wrap64 (a3+aQ))).bind fun sS=>((bY.f k bP bQ (wrap64 (aca*aU)) sS.1 sS.2.1 aQ).bind fun yT=>((bY.f k bR bS (wrap64 (Xp*aU)) sS.2.2.1 sS.2.2.2 aQ).bind fun vM=>(some (yT.1,yT.2,vM.1,vM.2))))) = some (r1,r2,r3,r4):=H
 have A7:=ae.mk A70
 clear A70
 replace H:=Option.bind_eq_some_iff.mp H
 obtain ⟨⟨Ak,Ct,Cu,De⟩,U6,H⟩:=H
 replace H:((bY.f k bP bQ (wrap64 (aca*aU)) Ak Ct aQ).bind fun yT=>((bY.f k bR bS (wrap64 (Xp*aU)) Cu De aQ).bind fun vM=>(some (yT.1,yT.2,vM.1,vM.2)))) = some (r1,r2,r3,r4):=H
 have A8:=ae.mk U6
 clear U6
 replace H:=Option.bind_eq_some_iff.mp H
 obtain ⟨⟨Xq,acb⟩,A90,H⟩:=H
 replace H:((bY.f k bR bS (wrap64 (Xp*aU)) Cu De aQ).bind fun vM=>(some (Xq,acb,vM.1,vM.2))) = some (r1,r2,r3,r4):=H
 have A9:=ae.mk A90
 clear A90
 replace H:=Option.bind_eq_some_iff.mp H
 obtain ⟨⟨ahK,anm⟩,Jr,H⟩:=H
 replace H:(some (Xq,acb,ahK,anm)) = some (r1,r2,r3,r4):=H
 have W9:=ae.mk Jr
 clear Jr
 simp only [Option.some.injEq,Prod.mk.injEq] at H
 obtain ⟨rfl,rfl,rfl,rfl⟩:=H
 go_enter Try.func106,Try.ntmps106
 try go_wp2_with (first|((with_reducible refine aA (N:=5) rfl ?_);refine az (by rfl) (N:=5) (by rfl) (cs:=#[.int .i64 aj,.int .i64 ak,.int .i64 ax,.int .i64 ay,.int .i64 aJ,.int .i64 aC,.int .i64 aG,.slice dH aN.length dD,.slice dG av.length dE]) (t:=25) gQ ?_;intro lL hg w11 hbox hb;have dh:=ae.mk (hbox);have aGa:=dn HB hg;have aGb:=dn HB hg;replace HB:=dF HB hb;clear hb hbox hg)|((with_reducible refine aA (N:=6) rfl ?_);refine az (by rfl) (N:=6) (by rfl) (cs:=#[.int .i64 aU,.int .i64 aQ,.int .i64 aZ,.int .i64 bf,.int .i64 bE,.int .i64 bF,.int .i64 bG]) (t:=29) gQ ?_;intro lD hg MC hbox hb;have di:=ae.mk (hbox);have aGc:=dn HB hg;have aGd:=dn HB hg;have aol:=iE dh hg;have aom:=iF dh hg;replace dh:=bC dh hb;replace HB:=dF HB hb;clear hb hbox hg)|((with_reducible refine aA (N:=7) rfl ?_);refine az (by rfl) (N:=7) (by rfl) (cs:=#[.int .i64 bP,.int .i64 bQ,.int .i64 bR,.int .i64 bS]) (t:=31) gQ ?_;intro pG hg w13 hbox hb;have eU:=ae.mk (hbox);have aGe:=dn HB hg;have aGf:=dn HB hg;have aon:=iE dh hg;have aoo:=iF dh hg;have aop:=iE di hg;have aoq:=iF di hg;replace dh:=bC dh hb;replace di:=bC di hb;replace HB:=dF HB hb;clear hb hbox hg)|((with_reducible refine aA (N:=9) rfl ?_);refine az (by rfl) (N:=9) (by rfl) (cs:=#[.int .i64 nY,.int .i64 mH]) (t:=33) gQ ?_;intro Al hg w14 hbox hb;have iT:=ae.mk (hbox);have aGg:=dn HB hg;have aGh:=dn HB hg;have acd:=iE dh hg;have ace:=iF dh hg;have acf:=iE di hg;have acg:=iF di hg;have ach:=iE eU hg;have aci:=iF eU hg;replace dh:=bC dh hb;replace di:=bC di hb;replace eU:=bC eU hb;replace HB:=dF HB hb;clear hb hbox hg)|((with_reducible refine aA (N:=10) rfl ?_);refine az (by rfl) (N:=10) (by rfl) (cs:=#[.int .i64 0,.int .i64 0,.int .i64 0,.int .i64 0]) (t:=31) gQ ?_;intro fV hg WW hbox hb;have jD:=ae.mk (hbox);have aGi:=dn HB hg;have aGj:=dn HB hg;have EB:=iE dh hg;have EC:=iF dh hg;have fH:=iE di hg;have ED:=iF di hg;have jv:=iE eU hg;have EE:=iF eU hg;have Am:=iE iT hg;have Ao:=iF iT hg;replace dh:=bC dh hb;replace di:=bC di hb;replace eU:=bC eU hb;replace iT:=bC iT hb;replace HB:=dF HB hb;clear hb hbox hg;have QF:=ace.out;have QG:=acd.out;have QM:=acg.out;have QN:=acf.out;have aeh:=aci.out;have aei:=ach.out;have Vh:=Am.out;have Vi:=Ao.out;obtain ⟨yM,yN,yO,yP⟩:=nE iT.out)|((with_reducible refine aW (f:=34) rfl ?_);refine dM (some 17) rfl rfl Try.func34 aR rfl #[.int .i64 nY] rfl jJ ?_;(with_reducible refine (iB.calls nY aca Xp _ A6.out).mono ?_);rintro e w21 ⟨rfl,hb⟩;refine ⟨_,rfl,?_⟩;replace dh:=bC dh hb;replace di:=bC di hb;replace eU:=bC eU hb;replace iT:=bC iT hb;replace jD:=bC jD hb;replace HB:=dF HB hb;(try clear hb);(try clear hb2);(try clear hk);(try clear hi)))
 replace dh:=ae.mk (ah dh.out)
 replace di:=ae.mk (ah di.out)
 replace eU:=ae.mk (ah eU.out)
 replace iT:=ae.mk (ah iT.out)
 replace jD:=ae.mk (ah jD.out)
 replace HB:=ae.mk (bW HB.out)
 refine jI (n:=15) (S:=fun w'=>w'.cell? ⟨lL,0,none⟩ = some (.int .i64 aj)∧w'.cell? ⟨lL,1,none⟩ = some (.int .i64 ak)∧w'.cell? ⟨lL,2,none⟩ = some (.int .i64 ax)∧w'.cell? ⟨lL,3,none⟩ = some (.int .i64 ay)∧w'.cell? ⟨lL,4,none⟩ = some (.int .i64 aJ)∧w'.cell? ⟨lL,5,none⟩ = some (.int .i64 aC)∧w'.cell? ⟨lL,6,none⟩ = some (.int .i64 aG)∧w'.cell? ⟨lL,7,none⟩ = some (.slice dH aN.length dD)∧w'.cell? ⟨lL,8,none⟩ = some (.slice dG av.length dE)∧w'.cell? ⟨lD,0,none⟩ = some (.int .i64 aU)∧w'.cell? ⟨lD,1,none⟩ = some (.int .i64 aQ)∧w'.cell? ⟨lD,2,none⟩ = some (.int .i64 aZ)∧w'.cell? ⟨lD,3,none⟩ = some (.int .i64 bf)∧w'.cell? ⟨lD,4,none⟩ = some (.int .i64 bE)∧w'.cell? ⟨lD,5,none⟩ = some (.int .i64 bF)∧w'.cell? ⟨lD,6,none⟩ = some (.int .i64 bG)∧w'.cell? ⟨pG,0,none⟩ = some (.int .i64 bP)∧w'.cell? ⟨pG,1,none⟩ = some (.int .i64 bQ)∧w'.cell? ⟨pG,2,none⟩ = some (.int .i64 bR)∧w'.cell? ⟨pG,3,none⟩ = some (.int .i64 bS)∧w'.cell? ⟨Al,0,none⟩ = some (.int .i64 nY)∧w'.cell? ⟨Al,1,none⟩ = some (.int .i64 mH)) (ds:=[]) #[false,false,false,false,false,false,false,false,false,false,false,false,false,false,false] aR rfl rfl ⟨(aa dh.out 0).trans rfl,(aa dh.out 1).trans rfl,(aa dh.out 2).trans rfl,(aa dh.out 3).trans rfl,(aa dh.out 4).trans rfl,(aa dh.out 5).trans rfl,(aa dh.out 6).trans rfl,(aa dh.out 7).trans rfl,(aa dh.out 8).trans rfl,(aa di.out 0).trans rfl,(aa di.out 1).trans rfl,(aa di.out 2).trans rfl,(aa di.out 3).trans rfl,(aa di.out 4).trans rfl,(aa di.out 5).trans rfl,(aa di.out 6).trans rfl,(aa eU.out 0).trans rfl,(aa eU.out 1).trans rfl,(aa eU.out 2).trans rfl,(aa eU.out 3).trans rfl,II iT.out⟩ (fun hHeld=>?_);refine iM bU.amL bU.adR (fun bN jX=>?_)
 generalize w21.drew = w22 at dh di eU iT jD HB hHeld ⊢
 refine dJ (i:=5) (N:=some 25) (aD bN.out aR) ?_
 refine dJ (i:=7) (N:=some 27) (aD bN.out aR) ?_
 refine dJ (i:=8) (N:=some 28) (aD bN.out aR) ?_
 refine dJ (i:=9) (N:=some 29) (aD bN.out aR) ?_
 refine ja (i:=0) (N:=some 20) (bq bN.out jX.out aR) hHeld ?_
 refine ja (i:=1) (N:=some 21) (bq bN.out jX.out aR) hHeld ?_
 refine ja (i:=2) (N:=some 22) (bq bN.out jX.out aR) hHeld ?_
 refine ja (i:=3) (N:=some 23) (bq bN.out jX.out aR) hHeld ?_
 refine ja (i:=6) (N:=some 26) (bq bN.out jX.out aR) hHeld ?_
 refine ja (i:=10) (N:=some 30) (bq bN.out jX.out aR) hHeld ?_
 refine dJ (i:=11) (N:=some 31) (aD bN.out aR) ?_
 refine Qx (σ:=Nat) 1 #[true,true,true,true,true,true,true,true,true,true,true,true,true,true,false] (fun s_=>[(24,.agg #[.int .i64 Qg,.int .i64 Qh,.int .i64 Qi,.int .i64 Qj]),(32,.agg #[.int .i64 Ak,.int .i64 Ct,.int .i64 Cu,.int .i64 De]),(13,.pointer (some ⟨s_,0,none⟩))]) (fun s_ w'=>(w'.cell? ⟨lL,0,none⟩ = some (.int .i64 aj)∧w'.cell? ⟨lL,1,none⟩ = some (.int .i64 ak)∧w'.cell? ⟨lL,2,none⟩ = some (.int .i64 ax)∧w'.cell? ⟨lL,3,none⟩ = some (.int .i64 ay)∧w'.cell? ⟨lL,4,none⟩ = some (.int .i64 aJ)∧w'.cell? ⟨lL,5,none⟩ = some (.int .i64 aC)∧w'.cell? ⟨lL,6,none⟩ = some (.int .i64 aG)∧w'.cell? ⟨lL,7,none⟩ = some (.slice dH aN.length dD)∧w'.cell? ⟨lL,8,none⟩ = some (.slice dG av.length dE)∧w'.cell? ⟨lD,0,none⟩ = some (.int .i64 aU)∧w'.cell? ⟨lD,1,none⟩ = some (.int .i64 aQ)∧w'.cell? ⟨lD,2,none⟩ = some (.int .i64 aZ)∧w'.cell? ⟨lD,3,none⟩ = some (.int .i64 bf)∧w'.cell? ⟨lD,4,none⟩ = some (.int .i64 bE)∧w'.cell? ⟨lD,5,none⟩ = some (.int .i64 bF)∧w'.cell? ⟨lD,6,none⟩ = some (.int .i64 bG)∧w'.cell? ⟨pG,0,none⟩ = some (.int .i64 bP)∧w'.cell? ⟨pG,1,none⟩ = some (.int .i64 bQ)∧w'.cell? ⟨pG,2,none⟩ = some (.int .i64 bR)∧w'.cell? ⟨pG,3,none⟩ = some (.int .i64 bS)∧w'.cell? ⟨Al,0,none⟩ = some (.int .i64 nY)∧w'.cell? ⟨Al,1,none⟩ = some (.int .i64 mH))∧(w'.heap[lL]? = some (.cells #[.int .i64 aj,.int .i64 ak,.int .i64 ax,.int .i64 ay,.int .i64 aJ,.int .i64 aC,.int .i64 aG,.slice dH aN.length dD,.slice dG av.length dE] 25 (0,0)))∧(w'.heap[lD]? = some (.cells #[.int .i64 aU,.int .i64 aQ,.int .i64 aZ,.int .i64 bf,.int .i64 bE,.int .i64 bF,.int .i64 bG] 29 (0,0)))∧(w'.heap[pG]? = some (.cells #[.int .i64 bP,.int .i64 bQ,.int .i64 bR,.int .i64 bS] 31 (0,0)))∧(w'.heap[Al]? = some (.cells #[.int .i64 nY,.int .i64 mH] 33 (0,0)))∧(w'.heap[fV]? = some (.cells #[.int .i64 0,.int .i64 0,.int .i64 0,.int .i64 0] 31 (0,0)))∧(w'.heap[s_]? = some (.cells #[.int .i64 0,.int .i64 0,.int .i64 0,.int .i64 0] 40 (0,0)))∧(w.heap.size≤s_)∧(w.heap.size≤s_)∧(lL≠s_)∧(s_≠lL)∧(lD≠s_)∧(s_≠lD)∧(pG≠s_)∧(s_≠pG)∧(Al≠s_)∧(s_≠Al)∧(fV≠s_)∧(s_≠fV)∧(Below w.heap.size w w')) ?_ ?_
 rotate_left
 ·intro hCont
  refine UL (i:=4) (j:=13) (Ni:=some 24) (Nj:=some 13) #[true,true,true,true,true,true,true,true,true,true,true,true,false,false,false] #[true,true,true,true,false,true,true,true,true,true,true,true,false,true,false] rfl rfl rfl rfl (KY bN.out aR) (by decide) (by decide) (fun K hK=>?_) (fun K hK=>?_)
  ·skip
   refine gV Try.func133 aR rfl #[.agg #[.int .i64 aj,.int .i64 ak,.int .i64 ax,.int .i64 ay,.int .i64 aJ,.int .i64 aC,.int .i64 aG,.slice dH aN.length dD,.slice dG av.length dE],.agg #[.int .i64 aU,.int .i64 aQ,.int .i64 aZ,.int .i64 bf,.int .i64 bE,.int .i64 bF,.int .i64 bG],.agg #[.int .i64 bP,.int .i64 bQ,.int .i64 bR,.int .i64 bS]] (by rfl) rfl rfl jJ ?_
   with_reducible refine (eB.calls k aj ak ax ay aJ aC aG _ _ aN _ _ av aU aQ aZ bf bE bF bG bP bQ bR bS Qg Qh Qi Qj _ ?dz ?dA ?dR ?dS A7.out).mono ?_
   (case dz=>repeat (first|exact (Kd.bn gq.out HB.out)|(with_reducible refine Kd.bA ?_ _)|(with_reducible refine Kd.bB ?_ _)|(with_reducible refine Kd.bK ?_)))
   (case dA=>exact gG.out)
   (case dR=>repeat (first|exact (Kd.bn fF.out HB.out)|(with_reducible refine Kd.bA ?_ _)|(with_reducible refine Kd.bB ?_ _)|(with_reducible refine Kd.bK ?_)))
   (case dS=>exact gH.out)
   rintro e w23 ⟨rfl,hb⟩
   refine ⟨_,rfl,?_⟩
   replace dh:=bC dh hb
   replace di:=bC di hb
   replace eU:=bC eU hb
   replace iT:=bC iT hb
   replace jD:=bC jD hb
   replace HB:=dF HB hb
   (try clear hb)
   (try clear hb2)
   (try clear hk)
   (try clear hi)
   refine hK.out _ _ ⟨(aa dh.out 0).trans rfl,(aa dh.out 1).trans rfl,(aa dh.out 2).trans rfl,(aa dh.out 3).trans rfl,(aa dh.out 4).trans rfl,(aa dh.out 5).trans rfl,(aa dh.out 6).trans rfl,(aa dh.out 7).trans rfl,(aa dh.out 8).trans rfl,(aa di.out 0).trans rfl,(aa di.out 1).trans rfl,(aa di.out 2).trans rfl,(aa di.out 3).trans rfl,(aa di.out 4).trans rfl,(aa di.out 5).trans rfl,(aa di.out 6).trans rfl,(aa eU.out 0).trans rfl,(aa eU.out 1).trans rfl,(aa eU.out 2).trans rfl,(aa eU.out 3).trans rfl,II iT.out⟩ (fun hHeld=>?_)
   clear hK K
   refine ek age ?_
   refine UL (i:=12) (j:=13) (Ni:=some 32) (Nj:=some 13) #[true,true,true,true,true,true,true,true,true,true,true,true,true,false,false] #[true,true,true,true,true,true,true,true,true,true,true,true,false,true,false] rfl rfl rfl rfl (KY bN.out aR) (by decide) (by decide) (fun K hK=>?_) (fun K hK=>?_)
   ·skip
    refine gV Try.func73 aR rfl #[.agg #[.int .i64 aj,.int .i64 ak,.int .i64 ax,.int .i64 ay,.int .i64 aJ,.int .i64 aC,.int .i64 aG,.slice dH aN.length dD,.slice dG av.length dE],.agg #[.int .i64 Qg,.int .i64 Qh,.int .i64 Qi,.int .i64 Qj],.int .i64 mH,.int .i64 a3,.int .i64 (wrap64 (a3+aQ))] (by rfl) rfl rfl jJ ?_
    with_reducible refine (aT.calls k aj ak ax ay aJ aC aG _ _ aN _ _ av Qg Qh Qi Qj mH a3 (wrap64 (a3+aQ)) Ak Ct Cu De _ ?dz ?dA ?dR ?dS A8.out).mono ?_
    (case dz=>repeat (first|exact (Kd.bn gq.out HB.out)|(with_reducible refine Kd.bA ?_ _)|(with_reducible refine Kd.bB ?_ _)|(with_reducible refine Kd.bK ?_)))
    (case dA=>exact gG.out)
    (case dR=>repeat (first|exact (Kd.bn fF.out HB.out)|(with_reducible refine Kd.bA ?_ _)|(with_reducible refine Kd.bB ?_ _)|(with_reducible refine Kd.bK ?_)))
    (case dS=>exact gH.out)
    rintro e w24 ⟨rfl,hb⟩
    refine ⟨_,rfl,?_⟩
    replace dh:=bC dh hb
    replace di:=bC di hb
    replace eU:=bC eU hb
    replace iT:=bC iT hb
    replace jD:=bC jD hb
    replace HB:=dF HB hb
    (try clear hb)
    (try clear hb2)
    (try clear hk)
    (try clear hi)
    refine hK.out _ _ ⟨(aa dh.out 0).trans rfl,(aa dh.out 1).trans rfl,(aa dh.out 2).trans rfl,(aa dh.out 3).trans rfl,(aa dh.out 4).trans rfl,(aa dh.out 5).trans rfl,(aa dh.out 6).trans rfl,(aa dh.out 7).trans rfl,(aa dh.out 8).trans rfl,(aa di.out 0).trans rfl,(aa di.out 1).trans rfl,(aa di.out 2).trans rfl,(aa di.out 3).trans rfl,(aa di.out 4).trans rfl,(aa di.out 5).trans rfl,(aa di.out 6).trans rfl,(aa eU.out 0).trans rfl,(aa eU.out 1).trans rfl,(aa eU.out 2).trans rfl,(aa eU.out 3).trans rfl,II iT.out⟩ (fun hHeld=>?_)
    clear hK K
    refine ek ann ?_
    refine jq (i:=13) (N:=some 13) #[true,true,true,true,true,true,true,true,true,true,true,true,true,true,false] rfl rfl (fE bN.out aR) (by decide) (fun K hK=>?_)
    refine o8 ?hg (N:=13) ?hd (cs:=#[.int .i64 0,.int .i64 0,.int .i64 0,.int .i64 0]) (t:=40) ?hr ?_;(case hd=>rfl);(case hg=>rfl);(case hr=>first|(go_simp;done)|(go_simp;rfl))
    intro bV hg w25 hbox hb
    have kL:=ae.mk (hbox)
    have QT:=dn HB hg
    have QU:=dn HB hg
    have dX:=iE dh hg
    have oL:=iF dh hg
    have eZ:=iE di hg
    have oM:=iF di hg
    have ig:=iE eU hg
    have oN:=iF eU hg
    have jQ:=iE iT hg
    have oO:=iF iT hg
    have lM:=iE jD hg
    have gp:=iF jD hg
    replace dh:=bC dh hb
    replace di:=bC di hb
    replace eU:=bC eU hb
    replace iT:=bC iT hb
    replace jD:=bC jD hb
    replace HB:=dF HB hb
    clear hb hbox hg
    refine hK.out _ _ ⟨(aa dh.out 0).trans rfl,(aa dh.out 1).trans rfl,(aa dh.out 2).trans rfl,(aa dh.out 3).trans rfl,(aa dh.out 4).trans rfl,(aa dh.out 5).trans rfl,(aa dh.out 6).trans rfl,(aa dh.out 7).trans rfl,(aa dh.out 8).trans rfl,(aa di.out 0).trans rfl,(aa di.out 1).trans rfl,(aa di.out 2).trans rfl,(aa di.out 3).trans rfl,(aa di.out 4).trans rfl,(aa di.out 5).trans rfl,(aa di.out 6).trans rfl,(aa eU.out 0).trans rfl,(aa eU.out 1).trans rfl,(aa eU.out 2).trans rfl,(aa eU.out 3).trans rfl,II iT.out⟩ (fun hHeld=>?_)
    clear hK K
    refine ek WN ?_
    exact ek P7 (hCont (bV) _ ⟨hHeld,iq,iq,iq,iq,iq,iq,QT.out,QU.out,dX.out,oL.out,eZ.out,oM.out,ig.out,oN.out,jQ.out,oO.out,lM.out,gp.out,gM⟩)
   ·skip
    refine o8 ?hg (N:=13) ?hd (cs:=#[.int .i64 0,.int .i64 0,.int .i64 0,.int .i64 0]) (t:=40) ?hr ?_;(case hd=>rfl);(case hg=>rfl);(case hr=>first|(go_simp;done)|(go_simp;rfl))
    intro bV hg w24 hbox hb
    have kL:=ae.mk (hbox)
    have QT:=dn HB hg
    have QU:=dn HB hg
    have dX:=iE dh hg
    have oL:=iF dh hg
    have eZ:=iE di hg
    have oM:=iF di hg
    have ig:=iE eU hg
    have oN:=iF eU hg
    have jQ:=iE iT hg
    have oO:=iF iT hg
    have lM:=iE jD hg
    have gp:=iF jD hg
    replace dh:=bC dh hb
    replace di:=bC di hb
    replace eU:=bC eU hb
    replace iT:=bC iT hb
    replace jD:=bC jD hb
    replace HB:=dF HB hb
    clear hb hbox hg
    refine hK.out _ _ ⟨(aa dh.out 0).trans rfl,(aa dh.out 1).trans rfl,(aa dh.out 2).trans rfl,(aa dh.out 3).trans rfl,(aa dh.out 4).trans rfl,(aa dh.out 5).trans rfl,(aa dh.out 6).trans rfl,(aa dh.out 7).trans rfl,(aa dh.out 8).trans rfl,(aa di.out 0).trans rfl,(aa di.out 1).trans rfl,(aa di.out 2).trans rfl,(aa di.out 3).trans rfl,(aa di.out 4).trans rfl,(aa di.out 5).trans rfl,(aa di.out 6).trans rfl,(aa eU.out 0).trans rfl,(aa eU.out 1).trans rfl,(aa eU.out 2).trans rfl,(aa eU.out 3).trans rfl,II iT.out⟩ (fun hHeld=>?_)
    clear hK K
    refine ek WN ?_
    refine jq (i:=12) (N:=some 32) #[true,true,true,true,true,true,true,true,true,true,true,true,true,true,false] rfl rfl (fE bN.out aR) (by decide) (fun K hK=>?_)
    refine gV Try.func73 aR rfl #[.agg #[.int .i64 aj,.int .i64 ak,.int .i64 ax,.int .i64 ay,.int .i64 aJ,.int .i64 aC,.int .i64 aG,.slice dH aN.length dD,.slice dG av.length dE],.agg #[.int .i64 Qg,.int .i64 Qh,.int .i64 Qi,.int .i64 Qj],.int .i64 mH,.int .i64 a3,.int .i64 (wrap64 (a3+aQ))] (by rfl) rfl rfl jJ ?_
    with_reducible refine (aT.calls k aj ak ax ay aJ aC aG _ _ aN _ _ av Qg Qh Qi Qj mH a3 (wrap64 (a3+aQ)) Ak Ct Cu De _ ?dz ?dA ?dR ?dS A8.out).mono ?_
    (case dz=>repeat (first|exact (Kd.bn gq.out HB.out)|(with_reducible refine Kd.bA ?_ _)|(with_reducible refine Kd.bB ?_ _)|(with_reducible refine Kd.bK ?_)))
    (case dA=>exact gG.out)
    (case dR=>repeat (first|exact (Kd.bn fF.out HB.out)|(with_reducible refine Kd.bA ?_ _)|(with_reducible refine Kd.bB ?_ _)|(with_reducible refine Kd.bK ?_)))
    (case dS=>exact gH.out)
    rintro e w25 ⟨rfl,hb⟩
    refine ⟨_,rfl,?_⟩
    replace dh:=bC dh hb
    replace di:=bC di hb
    replace eU:=bC eU hb
    replace iT:=bC iT hb
    replace jD:=bC jD hb
    replace kL:=bC kL hb
    replace HB:=dF HB hb
    (try clear hb)
    (try clear hb2)
    (try clear hk)
    (try clear hi)
    refine hK.out _ _ ⟨(aa dh.out 0).trans rfl,(aa dh.out 1).trans rfl,(aa dh.out 2).trans rfl,(aa dh.out 3).trans rfl,(aa dh.out 4).trans rfl,(aa dh.out 5).trans rfl,(aa dh.out 6).trans rfl,(aa dh.out 7).trans rfl,(aa dh.out 8).trans rfl,(aa di.out 0).trans rfl,(aa di.out 1).trans rfl,(aa di.out 2).trans rfl,(aa di.out 3).trans rfl,(aa di.out 4).trans rfl,(aa di.out 5).trans rfl,(aa di.out 6).trans rfl,(aa eU.out 0).trans rfl,(aa eU.out 1).trans rfl,(aa eU.out 2).trans rfl,(aa eU.out 3).trans rfl,II iT.out⟩ (fun hHeld=>?_)
    clear hK K
    refine ek ann ?_
    exact ek P7 (hCont (bV) _ ⟨hHeld,iq,iq,iq,iq,iq,iq,QT.out,QU.out,dX.out,oL.out,eZ.out,oM.out,ig.out,oN.out,jQ.out,oO.out,lM.out,gp.out,gM⟩)
  ·skip
   refine o8 ?hg (N:=13) ?hd (cs:=#[.int .i64 0,.int .i64 0,.int .i64 0,.int .i64 0]) (t:=40) ?hr ?_;(case hd=>rfl);(case hg=>rfl);(case hr=>first|(go_simp;done)|(go_simp;rfl))
   intro bV hg w23 hbox hb
   have kL:=ae.mk (hbox)
   have QT:=dn HB hg
   have QU:=dn HB hg
   have dX:=iE dh hg
   have oL:=iF dh hg
   have eZ:=iE di hg
   have oM:=iF di hg
   have ig:=iE eU hg
   have oN:=iF eU hg
   have jQ:=iE iT hg
   have oO:=iF iT hg
   have lM:=iE jD hg
   have gp:=iF jD hg
   replace dh:=bC dh hb
   replace di:=bC di hb
   replace eU:=bC eU hb
   replace iT:=bC iT hb
   replace jD:=bC jD hb
   replace HB:=dF HB hb
   clear hb hbox hg
   refine hK.out _ _ ⟨(aa dh.out 0).trans rfl,(aa dh.out 1).trans rfl,(aa dh.out 2).trans rfl,(aa dh.out 3).trans rfl,(aa dh.out 4).trans rfl,(aa dh.out 5).trans rfl,(aa dh.out 6).trans rfl,(aa dh.out 7).trans rfl,(aa dh.out 8).trans rfl,(aa di.out 0).trans rfl,(aa di.out 1).trans rfl,(aa di.out 2).trans rfl,(aa di.out 3).trans rfl,(aa di.out 4).trans rfl,(aa di.out 5).trans rfl,(aa di.out 6).trans rfl,(aa eU.out 0).trans rfl,(aa eU.out 1).trans rfl,(aa eU.out 2).trans rfl,(aa eU.out 3).trans rfl,II iT.out⟩ (fun hHeld=>?_)
   clear hK K
   refine ek WN ?_
   refine jq (i:=4) (N:=some 24) #[true,true,true,true,true,true,true,true,true,true,true,true,false,true,false] rfl rfl (fE bN.out aR) (by decide) (fun K hK=>?_)
   refine gV Try.func133 aR rfl #[.agg #[.int .i64 aj,.int .i64 ak,.int .i64 ax,.int .i64 ay,.int .i64 aJ,.int .i64 aC,.int .i64 aG,.slice dH aN.length dD,.slice dG av.length dE],.agg #[.int .i64 aU,.int .i64 aQ,.int .i64 aZ,.int .i64 bf,.int .i64 bE,.int .i64 bF,.int .i64 bG],.agg #[.int .i64 bP,.int .i64 bQ,.int .i64 bR,.int .i64 bS]] (by rfl) rfl rfl jJ ?_
   with_reducible refine (eB.calls k aj ak ax ay aJ aC aG _ _ aN _ _ av aU aQ aZ bf bE bF bG bP bQ bR bS Qg Qh Qi Qj _ ?dz ?dA ?dR ?dS A7.out).mono ?_
   (case dz=>repeat (first|exact (Kd.bn gq.out HB.out)|(with_reducible refine Kd.bA ?_ _)|(with_reducible refine Kd.bB ?_ _)|(with_reducible refine Kd.bK ?_)))
   (case dA=>exact gG.out)
   (case dR=>repeat (first|exact (Kd.bn fF.out HB.out)|(with_reducible refine Kd.bA ?_ _)|(with_reducible refine Kd.bB ?_ _)|(with_reducible refine Kd.bK ?_)))
   (case dS=>exact gH.out)
   rintro e w24 ⟨rfl,hb⟩
   refine ⟨_,rfl,?_⟩
   replace dh:=bC dh hb
   replace di:=bC di hb
   replace eU:=bC eU hb
   replace iT:=bC iT hb
   replace jD:=bC jD hb
   replace kL:=bC kL hb
   replace HB:=dF HB hb
   (try clear hb)
   (try clear hb2)
   (try clear hk)
   (try clear hi)
   refine hK.out _ _ ⟨(aa dh.out 0).trans rfl,(aa dh.out 1).trans rfl,(aa dh.out 2).trans rfl,(aa dh.out 3).trans rfl,(aa dh.out 4).trans rfl,(aa dh.out 5).trans rfl,(aa dh.out 6).trans rfl,(aa dh.out 7).trans rfl,(aa dh.out 8).trans rfl,(aa di.out 0).trans rfl,(aa di.out 1).trans rfl,(aa di.out 2).trans rfl,(aa di.out 3).trans rfl,(aa di.out 4).trans rfl,(aa di.out 5).trans rfl,(aa di.out 6).trans rfl,(aa eU.out 0).trans rfl,(aa eU.out 1).trans rfl,(aa eU.out 2).trans rfl,(aa eU.out 3).trans rfl,II iT.out⟩ (fun hHeld=>?_)
   clear hK K
   refine ek age ?_
   refine jq (i:=12) (N:=some 32) #[true,true,true,true,true,true,true,true,true,true,true,true,true,true,false] rfl rfl (fE bN.out aR) (by decide) (fun K hK=>?_)
   refine gV Try.func73 aR rfl #[.agg #[.int .i64 aj,.int .i64 ak,.int .i64 ax,.int .i64 ay,.int .i64 aJ,.int .i64 aC,.int .i64 aG,.slice dH aN.length dD,.slice dG av.length dE],.agg #[.int .i64 Qg,.int .i64 Qh,.int .i64 Qi,.int .i64 Qj],.int .i64 mH,.int .i64 a3,.int .i64 (wrap64 (a3+aQ))] (by rfl) rfl rfl jJ ?_
   with_reducible refine (aT.calls k aj ak ax ay aJ aC aG _ _ aN _ _ av Qg Qh Qi Qj mH a3 (wrap64 (a3+aQ)) Ak Ct Cu De _ ?dz ?dA ?dR ?dS A8.out).mono ?_
   (case dz=>repeat (first|exact (Kd.bn gq.out HB.out)|(with_reducible refine Kd.bA ?_ _)|(with_reducible refine Kd.bB ?_ _)|(with_reducible refine Kd.bK ?_)))
   (case dA=>exact gG.out)
   (case dR=>repeat (first|exact (Kd.bn fF.out HB.out)|(with_reducible refine Kd.bA ?_ _)|(with_reducible refine Kd.bB ?_ _)|(with_reducible refine Kd.bK ?_)))
   (case dS=>exact gH.out)
   rintro e w25 ⟨rfl,hb⟩
   refine ⟨_,rfl,?_⟩
   replace dh:=bC dh hb
   replace di:=bC di hb
   replace eU:=bC eU hb
   replace iT:=bC iT hb
   replace jD:=bC jD hb
   replace kL:=bC kL hb
   replace HB:=dF HB hb
   (try clear hb)
   (try clear hb2)
   (try clear hk)
   (try clear hi)
   refine hK.out _ _ ⟨(aa dh.out 0).trans rfl,(aa dh.out 1).trans rfl,(aa dh.out 2).trans rfl,(aa dh.out 3).trans rfl,(aa dh.out 4).trans rfl,(aa dh.out 5).trans rfl,(aa dh.out 6).trans rfl,(aa dh.out 7).trans rfl,(aa dh.out 8).trans rfl,(aa di.out 0).trans rfl,(aa di.out 1).trans rfl,(aa di.out 2).trans rfl,(aa di.out 3).trans rfl,(aa di.out 4).trans rfl,(aa di.out 5).trans rfl,(aa di.out 6).trans rfl,(aa eU.out 0).trans rfl,(aa eU.out 1).trans rfl,(aa eU.out 2).trans rfl,(aa eU.out 3).trans rfl,II iT.out⟩ (fun hHeld=>?_)
   clear hK K
   refine ek ann ?_
   exact ek P7 (hCont (bV) _ ⟨hHeld,iq,iq,iq,iq,iq,iq,QT.out,QU.out,dX.out,oL.out,eZ.out,oM.out,ig.out,oN.out,jQ.out,oO.out,lM.out,gp.out,gM⟩)
 rintro bV yU ⟨hS_,h0_,h1_,h2_,h3_,h4_,h5_,h6_,h7_,h8_,h9_,O5,O6,Vm,Vn,aqA,aqB,aqC,aqD,aqE⟩
 have BM:ae (yU.heap[lL]? = some (.cells #[.int .i64 aj,.int .i64 ak,.int .i64 ax,.int .i64 ay,.int .i64 aJ,.int .i64 aC,.int .i64 aG,.slice dH aN.length dD,.slice dG av.length dE] 25 (0,0))):=⟨h0_⟩
 have BN:ae (yU.heap[lD]? = some (.cells #[.int .i64 aU,.int .i64 aQ,.int .i64 aZ,.int .i64 bf,.int .i64 bE,.int .i64 bF,.int .i64 bG] 29 (0,0))):=⟨h1_⟩
 have BO:ae (yU.heap[pG]? = some (.cells #[.int .i64 bP,.int .i64 bQ,.int .i64 bR,.int .i64 bS] 31 (0,0))):=⟨h2_⟩
 have BP:ae (yU.heap[Al]? = some (.cells #[.int .i64 nY,.int .i64 mH] 33 (0,0))):=⟨h3_⟩
 have BQ:ae (yU.heap[fV]? = some (.cells #[.int .i64 0,.int .i64 0,.int .i64 0,.int .i64 0] 31 (0,0))):=⟨h4_⟩
 have GD:ae (yU.heap[bV]? = some (.cells #[.int .i64 0,.int .i64 0,.int .i64 0,.int .i64 0] 40 (0,0))):=⟨h5_⟩
 have RH:ae (w.heap.size≤bV):=⟨h6_⟩
 have n7_:ae (w.heap.size≤bV):=⟨h7_⟩
 have n8_:ae (lL≠bV):=⟨h8_⟩
 have n9_:ae (bV≠lL):=⟨h9_⟩
 have O7:ae (lD≠bV):=⟨O5⟩
 have O8:ae (bV≠lD):=⟨O6⟩
 have Vo:ae (pG≠bV):=⟨Vm⟩
 have Vp:ae (bV≠pG):=⟨Vn⟩
 have aqF:ae (Al≠bV):=⟨aqA⟩
 have aqG:ae (bV≠Al):=⟨aqB⟩
 have aqH:ae (fV≠bV):=⟨aqC⟩
 have aqI:ae (bV≠fV):=⟨aqD⟩
 have aqJ:ae (Below w.heap.size w yU):=⟨aqE⟩
 clear dh di eU iT jD HB
 clear h0_ h1_ h2_ h3_ h4_ h5_ h6_ h7_ h8_ h9_ O5 O6 Vm Vn aqA aqB aqC aqD aqE
 have dh:=BM
 have di:=BN
 have eU:=BO
 have iT:=BP
 have jD:=BQ
 have kL:=GD
 have QT:=RH
 have QU:=n7_
 have dX:=n8_
 have oL:=n9_
 have eZ:=O7
 have oM:=O8
 have ig:=Vo
 have oN:=Vp
 have jQ:=aqF
 have oO:=aqG
 have lM:=aqH
 have gp:=aqI
 have HB:=aqJ
 clear BM BN BO BP BQ GD RH n7_ n8_ n9_ O7 O8 Vo Vp aqF aqG aqH aqI aqJ
 have hHeld:yU.cell? ⟨lL,0,none⟩ = some (.int .i64 aj)∧yU.cell? ⟨lL,1,none⟩ = some (.int .i64 ak)∧yU.cell? ⟨lL,2,none⟩ = some (.int .i64 ax)∧yU.cell? ⟨lL,3,none⟩ = some (.int .i64 ay)∧yU.cell? ⟨lL,4,none⟩ = some (.int .i64 aJ)∧yU.cell? ⟨lL,5,none⟩ = some (.int .i64 aC)∧yU.cell? ⟨lL,6,none⟩ = some (.int .i64 aG)∧yU.cell? ⟨lL,7,none⟩ = some (.slice dH aN.length dD)∧yU.cell? ⟨lL,8,none⟩ = some (.slice dG av.length dE)∧yU.cell? ⟨lD,0,none⟩ = some (.int .i64 aU)∧yU.cell? ⟨lD,1,none⟩ = some (.int .i64 aQ)∧yU.cell? ⟨lD,2,none⟩ = some (.int .i64 aZ)∧yU.cell? ⟨lD,3,none⟩ = some (.int .i64 bf)∧yU.cell? ⟨lD,4,none⟩ = some (.int .i64 bE)∧yU.cell? ⟨lD,5,none⟩ = some (.int .i64 bF)∧yU.cell? ⟨lD,6,none⟩ = some (.int .i64 bG)∧yU.cell? ⟨pG,0,none⟩ = some (.int .i64 bP)∧yU.cell? ⟨pG,1,none⟩ = some (.int .i64 bQ)∧yU.cell? ⟨pG,2,none⟩ = some (.int .i64 bR)∧yU.cell? ⟨pG,3,none⟩ = some (.int .i64 bS)∧yU.cell? ⟨Al,0,none⟩ = some (.int .i64 nY)∧yU.cell? ⟨Al,1,none⟩ = some (.int .i64 mH):=hS_
 refine ek (a':=?_) ?_ ?_
 rotate_left
 ·simp only [vQ,Act.put,List.setIfInBounds_toArray,List.set_cons_zero,List.set_cons_succ]
  rfl
 refine jq (i:=14) (N:=none) #[true,true,true,true,true,true,true,true,true,true,true,true,true,true,true] rfl rfl (fE bN.out aR) (by decide) (fun K hK=>?_)
 have aI6:yU.cell? ⟨bV,0,none⟩ = some (.int .i64 0):=(aa kL.out 0).trans rfl
 have aGk:=aX kL.out 0
 have awN:=dX.out
 have awO:=eZ.out
 have awP:=ig.out
 have awQ:=jQ.out
 have awR:=lM.out
 have awS:=oL.out
 have awT:=oM.out
 have awU:=oN.out
 have awV:=oO.out
 have awW:=gp.out
 have aI7:yU.cell? ⟨bV,1,none⟩ = some (.int .i64 0):=(aa kL.out 1).trans rfl
 have aGl:=aX kL.out 1
 have awX:=dX.out
 have awY:=eZ.out
 have awZ:=ig.out
 have aw0:=jQ.out
 have aw1:=lM.out
 have aw2:=oL.out
 have aw3:=oM.out
 have aw4:=oN.out
 have aw5:=oO.out
 have aw6:=gp.out
 have aI8:yU.cell? ⟨bV,2,none⟩ = some (.int .i64 0):=(aa kL.out 2).trans rfl
 have aGm:=aX kL.out 2
 have aw7:=dX.out
 have aw8:=eZ.out
 have aw9:=ig.out
 have axa:=jQ.out
 have axb:=lM.out
 have axc:=oL.out
 have axd:=oM.out
 have axe:=oN.out
 have axf:=oO.out
 have axg:=gp.out
 have aI9:yU.cell? ⟨bV,3,none⟩ = some (.int .i64 0):=(aa kL.out 3).trans rfl
 have aGn:=aX kL.out 3
 have axh:=dX.out
 have axi:=eZ.out
 have axj:=ig.out
 have axk:=jQ.out
 have axl:=lM.out
 have axm:=oL.out
 have axn:=oM.out
 have axo:=oN.out
 have axp:=oO.out
 have axq:=gp.out
 refine yc (w1:=?_) (by rfl) rfl ?_ ?_
 rotate_left
 ·go_simp
  rfl
 refine hK.out _ _ ⟨((cell_far (p:=⟨bV,_,none⟩) dX.out _).trans (((cell_far (p:=⟨bV,_,none⟩) dX.out _).trans (((cell_far (p:=⟨bV,_,none⟩) dX.out _).trans (((cell_far (p:=⟨bV,_,none⟩) dX.out _).trans (hHeld.1)))))))),((cell_far (p:=⟨bV,_,none⟩) dX.out _).trans (((cell_far (p:=⟨bV,_,none⟩) dX.out _).trans (((cell_far (p:=⟨bV,_,none⟩) dX.out _).trans (((cell_far (p:=⟨bV,_,none⟩) dX.out _).trans (hHeld.2.1)))))))),((cell_far (p:=⟨bV,_,none⟩) dX.out _).trans (((cell_far (p:=⟨bV,_,none⟩) dX.out _).trans (((cell_far (p:=⟨bV,_,none⟩) dX.out _).trans (((cell_far (p:=⟨bV,_,none⟩) dX.out _).trans (hHeld.2.2.1)))))))),((cell_far (p:=⟨bV,_,none⟩) dX.out _).trans (((cell_far (p:=⟨bV,_,none⟩) dX.out _).trans (((cell_far (p:=⟨bV,_,none⟩) dX.out _).trans (((cell_far (p:=⟨bV,_,none⟩) dX.out _).trans (hHeld.2.2.2.1)))))))),((cell_far (p:=⟨bV,_,none⟩) dX.out _).trans (((cell_far (p:=⟨bV,_,none⟩) dX.out _).trans (((cell_far (p:=⟨bV,_,none⟩) dX.out _).trans (((cell_far (p:=⟨bV,_,none⟩) dX.out _).trans (hHeld.2.2.2.2.1)))))))),((cell_far (p:=⟨bV,_,none⟩) dX.out _).trans (((cell_far (p:=⟨bV,_,none⟩) dX.out _).trans (((cell_far (p:=⟨bV,_,none⟩) dX.out _).trans (((cell_far (p:=⟨bV,_,none⟩) dX.out _).trans (hHeld.2.2.2.2.2.1)))))))),((cell_far (p:=⟨bV,_,none⟩) dX.out _).trans (((cell_far (p:=⟨bV,_,none⟩) dX.out _).trans (((cell_far (p:=⟨bV,_,none⟩) dX.out _).trans (((cell_far (p:=⟨bV,_,none⟩) dX.out _).trans (hHeld.2.2.2.2.2.2.1)))))))),((cell_far (p:=⟨bV,_,none⟩) dX.out _).trans (((cell_far (p:=⟨bV,_,none⟩) dX.out _).trans (((cell_far (p:=⟨bV,_,none⟩) dX.out _).trans (((cell_far (p:=⟨bV,_,none⟩) dX.out _).trans (hHeld.2.2.2.2.2.2.2.1)))))))),((cell_far (p:=⟨bV,_,none⟩) dX.out _).trans (((cell_far (p:=⟨bV,_,none⟩) dX.out _).trans (((cell_far (p:=⟨bV,_,none⟩) dX.out _).trans (((cell_far (p:=⟨bV,_,none⟩) dX.out _).trans (hHeld.2.2.2.2.2.2.2.2.1)))))))),((cell_far (p:=⟨bV,_,none⟩) eZ.out _).trans (((cell_far (p:=⟨bV,_,none⟩) eZ.out _).trans (((cell_far (p:=⟨bV,_,none⟩) eZ.out _).trans (((cell_far (p:=⟨bV,_,none⟩) eZ.out _).trans (hHeld.2.2.2.2.2.2.2.2.2.1)))))))),((cell_far (p:=⟨bV,_,none⟩) eZ.out _).trans (((cell_far (p:=⟨bV,_,none⟩) eZ.out _).trans (((cell_far (p:=⟨bV,_,none⟩) eZ.out _).trans (((cell_far (p:=⟨bV,_,none⟩) eZ.out _).trans (hHeld.2.2.2.2.2.2.2.2.2.2.1)))))))),((cell_far (p:=⟨bV,_,none⟩) eZ.out _).trans (((cell_far (p:=⟨bV,_,none⟩) eZ.out _).trans (((cell_far (p:=⟨bV,_,none⟩) eZ.out _).trans (((cell_far (p:=⟨bV,_,none⟩) eZ.out _).trans (hHeld.2.2.2.2.2.2.2.2.2.2.2.1)))))))),((cell_far (p:=⟨bV,_,none⟩) eZ.out _).trans (((cell_far (p:=⟨bV,_,none⟩) eZ.out _).trans (((cell_far (p:=⟨bV,_,none⟩) eZ.out _).trans (((cell_far (p:=⟨bV,_,none⟩) eZ.out _).trans (hHeld.2.2.2.2.2.2.2.2.2.2.2.2.1)))))))),((cell_far (p:=⟨bV,_,none⟩) eZ.out _).trans (((cell_far (p:=⟨bV,_,none⟩) eZ.out _).trans (((cell_far (p:=⟨bV,_,none⟩) eZ.out _).trans (((cell_far (p:=⟨bV,_,none⟩) eZ.out _).trans (hHeld.2.2.2.2.2.2.2.2.2.2.2.2.2.1)))))))),((cell_far (p:=⟨bV,_,none⟩) eZ.out _).trans (((cell_far (p:=⟨bV,_,none⟩) eZ.out _).trans (((cell_far (p:=⟨bV,_,none⟩) eZ.out _).trans (((cell_far (p:=⟨bV,_,none⟩) eZ.out _).trans (hHeld.2.2.2.2.2.2.2.2.2.2.2.2.2.2.1)))))))),((cell_far (p:=⟨bV,_,none⟩) eZ.out _).trans (((cell_far (p:=⟨bV,_,none⟩) eZ.out _).trans (((cell_far (p:=⟨bV,_,none⟩) eZ.out _).trans (((cell_far (p:=⟨bV,_,none⟩) eZ.out _).trans (hHeld.2.2.2.2.2.2.2.2.2.2.2.2.2.2.2.1)))))))),((cell_far (p:=⟨bV,_,none⟩) ig.out _).trans (((cell_far (p:=⟨bV,_,none⟩) ig.out _).trans (((cell_far (p:=⟨bV,_,none⟩) ig.out _).trans (((cell_far (p:=⟨bV,_,none⟩) ig.out _).trans (hHeld.2.2.2.2.2.2.2.2.2.2.2.2.2.2.2.2.1)))))))),((cell_far (p:=⟨bV,_,none⟩) ig.out _).trans (((cell_far (p:=⟨bV,_,none⟩) ig.out _).trans (((cell_far (p:=⟨bV,_,none⟩) ig.out _).trans (((cell_far (p:=⟨bV,_,none⟩) ig.out _).trans (hHeld.2.2.2.2.2.2.2.2.2.2.2.2.2.2.2.2.2.1)))))))),((cell_far (p:=⟨bV,_,none⟩) ig.out _).trans (((cell_far (p:=⟨bV,_,none⟩) ig.out _).trans (((cell_far (p:=⟨bV,_,none⟩) ig.out _).trans (((cell_far (p:=⟨bV,_,none⟩) ig.out _).trans (hHeld.2.2.2.2.2.2.2.2.2.2.2.2.2.2.2.2.2.2.1)))))))),((cell_far (p:=⟨bV,_,none⟩) ig.out _).trans (((cell_far (p:=⟨bV,_,none⟩) ig.out _).trans (((cell_far (p:=⟨bV,_,none⟩) ig.out _).trans (((cell_far (p:=⟨bV,_,none⟩) ig.out _).trans (hHeld.2.2.2.2.2.2.2.2.2.2.2.2.2.2.2.2.2.2.2.1)))))))),((cell_far (p:=⟨bV,_,none⟩) jQ.out _).trans (((cell_far (p:=⟨bV,_,none⟩) jQ.out _).trans (((cell_far (p:=⟨bV,_,none⟩) jQ.out _).trans (((cell_far (p:=⟨bV,_,none⟩) jQ.out _).trans (hHeld.2.2.2.2.2.2.2.2.2.2.2.2.2.2.2.2.2.2.2.2.1)))))))),((cell_far (p:=⟨bV,_,none⟩) jQ.out _).trans (((cell_far (p:=⟨bV,_,none⟩) jQ.out _).trans (((cell_far (p:=⟨bV,_,none⟩) jQ.out _).trans (((cell_far (p:=⟨bV,_,none⟩) jQ.out _).trans (hHeld.2.2.2.2.2.2.2.2.2.2.2.2.2.2.2.2.2.2.2.2.2))))))))⟩ (fun hHeld=>?_)
 clear hK K
 refine lC (kF bN.out aR) ?_
 try go_wp2
 have BM:ae (((((yU.setCell ⟨bV,0,none⟩ (.int .i64 Ak)).setCell ⟨bV,1,none⟩ (.int .i64 Ct)).setCell ⟨bV,2,none⟩ (.int .i64 Cu)).setCell ⟨bV,3,none⟩ (.int .i64 De)).heap[lL]? = some (.cells #[.int .i64 aj,.int .i64 ak,.int .i64 ax,.int .i64 ay,.int .i64 aJ,.int .i64 aC,.int .i64 aG,.slice dH aN.length dD,.slice dG av.length dE] 25 (0,0))):=⟨iq⟩
 have BN:ae (((((yU.setCell ⟨bV,0,none⟩ (.int .i64 Ak)).setCell ⟨bV,1,none⟩ (.int .i64 Ct)).setCell ⟨bV,2,none⟩ (.int .i64 Cu)).setCell ⟨bV,3,none⟩ (.int .i64 De)).heap[lD]? = some (.cells #[.int .i64 aU,.int .i64 aQ,.int .i64 aZ,.int .i64 bf,.int .i64 bE,.int .i64 bF,.int .i64 bG] 29 (0,0))):=⟨iq⟩
 have BO:ae (((((yU.setCell ⟨bV,0,none⟩ (.int .i64 Ak)).setCell ⟨bV,1,none⟩ (.int .i64 Ct)).setCell ⟨bV,2,none⟩ (.int .i64 Cu)).setCell ⟨bV,3,none⟩ (.int .i64 De)).heap[pG]? = some (.cells #[.int .i64 bP,.int .i64 bQ,.int .i64 bR,.int .i64 bS] 31 (0,0))):=⟨iq⟩
 have BP:ae (((((yU.setCell ⟨bV,0,none⟩ (.int .i64 Ak)).setCell ⟨bV,1,none⟩ (.int .i64 Ct)).setCell ⟨bV,2,none⟩ (.int .i64 Cu)).setCell ⟨bV,3,none⟩ (.int .i64 De)).heap[Al]? = some (.cells #[.int .i64 nY,.int .i64 mH] 33 (0,0))):=⟨iq⟩
 have BQ:ae (((((yU.setCell ⟨bV,0,none⟩ (.int .i64 Ak)).setCell ⟨bV,1,none⟩ (.int .i64 Ct)).setCell ⟨bV,2,none⟩ (.int .i64 Cu)).setCell ⟨bV,3,none⟩ (.int .i64 De)).heap[fV]? = some (.cells #[.int .i64 0,.int .i64 0,.int .i64 0,.int .i64 0] 31 (0,0))):=⟨iq⟩
 have GD:ae (((((yU.setCell ⟨bV,0,none⟩ (.int .i64 Ak)).setCell ⟨bV,1,none⟩ (.int .i64 Ct)).setCell ⟨bV,2,none⟩ (.int .i64 Cu)).setCell ⟨bV,3,none⟩ (.int .i64 De)).heap[bV]? = some (.cells #[.int .i64 Ak,.int .i64 Ct,.int .i64 Cu,.int .i64 De] 40 (0,0))):=⟨by (with_reducible repeat (first|refine au ?_ _|refine ah ?_|refine ag ?_ _));refine aI (cs:=#[.int .i64 Ak,.int .i64 Ct,.int .i64 Cu,.int .i64 0]) ?_ 3 _ rfl;(with_reducible repeat (first|refine au ?_ _|refine ah ?_|refine ag ?_ _));refine aI (cs:=#[.int .i64 Ak,.int .i64 Ct,.int .i64 0,.int .i64 0]) ?_ 2 _ rfl;(with_reducible repeat (first|refine au ?_ _|refine ah ?_|refine ag ?_ _));refine aI (cs:=#[.int .i64 Ak,.int .i64 0,.int .i64 0,.int .i64 0]) ?_ 1 _ rfl;(with_reducible repeat (first|refine au ?_ _|refine ah ?_|refine ag ?_ _));refine aI (cs:=#[.int .i64 0,.int .i64 0,.int .i64 0,.int .i64 0]) ?_ 0 _ rfl;(with_reducible repeat (first|refine au ?_ _|refine ah ?_|refine ag ?_ _));exact kL.out⟩
 have RH:ae (Below w.heap.size w ((((yU.setCell ⟨bV,0,none⟩ (.int .i64 Ak)).setCell ⟨bV,1,none⟩ (.int .i64 Ct)).setCell ⟨bV,2,none⟩ (.int .i64 Cu)).setCell ⟨bV,3,none⟩ (.int .i64 De))):=⟨gM⟩
 (try clear dh)
 (try clear di)
 (try clear eU)
 (try clear iT)
 (try clear jD)
 (try clear kL)
 (try clear HB)
 generalize ((((yU.setCell ⟨bV,0,none⟩ (.int .i64 Ak)).setCell ⟨bV,1,none⟩ (.int .i64 Ct)).setCell ⟨bV,2,none⟩ (.int .i64 Cu)).setCell ⟨bV,3,none⟩ (.int .i64 De)) = w31 at BM BN BO BP BQ GD RH ⊢
 have dh:=BM
 have di:=BN
 have eU:=BO
 have iT:=BP
 have jD:=BQ
 have kL:=GD
 have HB:=RH
 clear BM BN BO BP BQ GD RH
 replace dh:=ae.mk (ah dh.out)
 replace di:=ae.mk (ah di.out)
 replace eU:=ae.mk (ah eU.out)
 replace iT:=ae.mk (ah iT.out)
 replace jD:=ae.mk (ah jD.out)
 replace kL:=ae.mk (ah kL.out)
 replace HB:=ae.mk (bW HB.out)
 refine jI (n:=24) (S:=fun w'=>w'.cell? ⟨pG,0,none⟩ = some (.int .i64 bP)∧w'.cell? ⟨pG,1,none⟩ = some (.int .i64 bQ)∧w'.cell? ⟨pG,2,none⟩ = some (.int .i64 bR)∧w'.cell? ⟨pG,3,none⟩ = some (.int .i64 bS)∧w'.cell? ⟨lD,0,none⟩ = some (.int .i64 aU)∧w'.cell? ⟨lD,1,none⟩ = some (.int .i64 aQ)∧w'.cell? ⟨lD,2,none⟩ = some (.int .i64 aZ)∧w'.cell? ⟨lD,3,none⟩ = some (.int .i64 bf)∧w'.cell? ⟨lD,4,none⟩ = some (.int .i64 bE)∧w'.cell? ⟨lD,5,none⟩ = some (.int .i64 bF)∧w'.cell? ⟨lD,6,none⟩ = some (.int .i64 bG)∧w'.cell? ⟨bV,0,none⟩ = some (.int .i64 Ak)∧w'.cell? ⟨bV,1,none⟩ = some (.int .i64 Ct)∧w'.cell? ⟨bV,2,none⟩ = some (.int .i64 Cu)∧w'.cell? ⟨bV,3,none⟩ = some (.int .i64 De)) (ds:=[]) #[false,false,false,false,false,false,false,false,false,false,false,false,false,false,false,false,false,false,false,false,false,false,false,false] aR rfl rfl ⟨(aa eU.out 0).trans rfl,(aa eU.out 1).trans rfl,(aa eU.out 2).trans rfl,(aa eU.out 3).trans rfl,(aa di.out 0).trans rfl,(aa di.out 1).trans rfl,(aa di.out 2).trans rfl,(aa di.out 3).trans rfl,(aa di.out 4).trans rfl,(aa di.out 5).trans rfl,(aa di.out 6).trans rfl,(aa kL.out 0).trans rfl,(aa kL.out 1).trans rfl,(aa kL.out 2).trans rfl,(aa kL.out 3).trans rfl⟩ (fun hHeld=>?_);refine iM bU.aDe bU.aqz (fun bN jX=>?_)
 generalize w31.drew = w32 at dh di eU iT jD kL HB hHeld ⊢
 refine dJ (i:=0) (N:=some 33) (aD bN.out aR) ?_
 refine dJ (i:=2) (N:=some 35) (aD bN.out aR) ?_
 refine dJ (i:=3) (N:=some 36) (aD bN.out aR) ?_
 refine dJ (i:=6) (N:=some 39) (aD bN.out aR) ?_
 refine dJ (i:=8) (N:=some 41) (aD bN.out aR) ?_
 refine dJ (i:=11) (N:=some 44) (aD bN.out aR) ?_
 refine dJ (i:=13) (N:=some 46) (aD bN.out aR) ?_
 refine dJ (i:=14) (N:=some 47) (aD bN.out aR) ?_
 refine dJ (i:=17) (N:=some 50) (aD bN.out aR) ?_
 refine dJ (i:=19) (N:=some 52) (aD bN.out aR) ?_
 refine ja (i:=1) (N:=some 34) (bq bN.out jX.out aR) hHeld ?_
 refine ja (i:=4) (N:=some 37) (bq bN.out jX.out aR) hHeld ?_
 refine dJ (i:=5) (N:=some 38) (aD bN.out aR) ?_
 refine ja (i:=7) (N:=some 40) (bq bN.out jX.out aR) hHeld ?_
 refine ja (i:=9) (N:=some 42) (bq bN.out jX.out aR) hHeld ?_
 refine ja (i:=12) (N:=some 45) (bq bN.out jX.out aR) hHeld ?_
 refine ja (i:=15) (N:=some 48) (bq bN.out jX.out aR) hHeld ?_
 refine dJ (i:=16) (N:=some 49) (aD bN.out aR) ?_
 refine ja (i:=18) (N:=some 51) (bq bN.out jX.out aR) hHeld ?_
 refine ja (i:=20) (N:=some 53) (bq bN.out jX.out aR) hHeld ?_
 refine jq (i:=10) (N:=some 43) #[true,true,true,true,true,true,true,true,true,true,true,true,true,true,true,true,true,true,true,true,true,false,false,false] rfl rfl (fE bN.out aR) (by decide) (fun K hK=>?_)
 refine gV Try.func134 aR rfl #[.agg #[.int .i64 bP,.int .i64 bQ],.int .i64 (wrap64 (aca*aU)),.agg #[.int .i64 Ak,.int .i64 Ct],.int .i64 aQ] (by rfl) rfl rfl jJ ?_
 with_reducible refine (bY.calls k bP bQ (wrap64 (aca*aU)) Ak Ct aQ Xq acb _ A9.out).mono ?_
 rintro e Df ⟨rfl,hb⟩
 refine ⟨_,rfl,?_⟩
 replace dh:=bC dh hb
 replace di:=bC di hb
 replace eU:=bC eU hb
 replace iT:=bC iT hb
 replace jD:=bC jD hb
 replace kL:=bC kL hb
 replace HB:=dF HB hb
 (try clear hb)
 (try clear hb2)
 (try clear hk)
 (try clear hi)
 refine hK.out _ _ ⟨(aa eU.out 0).trans rfl,(aa eU.out 1).trans rfl,(aa eU.out 2).trans rfl,(aa eU.out 3).trans rfl,(aa di.out 0).trans rfl,(aa di.out 1).trans rfl,(aa di.out 2).trans rfl,(aa di.out 3).trans rfl,(aa di.out 4).trans rfl,(aa di.out 5).trans rfl,(aa di.out 6).trans rfl,(aa kL.out 0).trans rfl,(aa kL.out 1).trans rfl,(aa kL.out 2).trans rfl,(aa kL.out 3).trans rfl⟩ (fun hHeld=>?_)
 clear hK K
 refine ek aoW ?_
 refine jq (i:=21) (N:=some 54) #[true,true,true,true,true,true,true,true,true,true,true,true,true,true,true,true,true,true,true,true,true,true,false,false] rfl rfl (fE bN.out aR) (by decide) (fun K hK=>?_)
 refine gV Try.func134 aR rfl #[.agg #[.int .i64 bR,.int .i64 bS],.int .i64 (wrap64 (Xp*aU)),.agg #[.int .i64 Cu,.int .i64 De],.int .i64 aQ] (by rfl) rfl rfl jJ ?_
 with_reducible refine (bY.calls k bR bS (wrap64 (Xp*aU)) Cu De aQ ahK anm _ W9.out).mono ?_
 rintro e w34 ⟨rfl,hb⟩
 refine ⟨_,rfl,?_⟩
 replace dh:=bC dh hb
 replace di:=bC di hb
 replace eU:=bC eU hb
 replace iT:=bC iT hb
 replace jD:=bC jD hb
 replace kL:=bC kL hb
 replace HB:=dF HB hb
 (try clear hb)
 (try clear hb2)
 (try clear hk)
 (try clear hi)
 refine hK.out _ _ ⟨(aa eU.out 0).trans rfl,(aa eU.out 1).trans rfl,(aa eU.out 2).trans rfl,(aa eU.out 3).trans rfl,(aa di.out 0).trans rfl,(aa di.out 1).trans rfl,(aa di.out 2).trans rfl,(aa di.out 3).trans rfl,(aa di.out 4).trans rfl,(aa di.out 5).trans rfl,(aa di.out 6).trans rfl,(aa kL.out 0).trans rfl,(aa kL.out 1).trans rfl,(aa kL.out 2).trans rfl,(aa kL.out 3).trans rfl⟩ (fun hHeld=>?_)
 clear hK K
 refine ek (by show Act.put _ (some 54) _ = _;simp only [Act.put,List.setIfInBounds_toArray,List.set_cons_zero,List.set_cons_succ,fD,fJ];rfl) ?_
 refine dJ (i:=22) (N:=some 55) (aD bN.out aR) ?_
 refine jq (i:=23) (N:=none) #[true,true,true,true,true,true,true,true,true,true,true,true,true,true,true,true,true,true,true,true,true,true,true,true] rfl rfl (fE bN.out aR) (by decide) (fun K hK=>?_)
 have aDf:w34.cell? ⟨fV,0,none⟩ = some (.int .i64 0):=(aa jD.out 0).trans rfl
 have aqK:=aX jD.out 0
 have ahL:=EB.out
 have ahM:=fH.out
 have ahN:=jv.out
 have axr:=Am.out
 have axs:=gp.out
 have ahO:=EC.out
 have ahP:=ED.out
 have ahQ:=EE.out
 have axt:=Ao.out
 have axu:=lM.out
 have aDg:w34.cell? ⟨fV,1,none⟩ = some (.int .i64 0):=(aa jD.out 1).trans rfl
 have aqL:=aX jD.out 1
 have ahR:=EB.out
 have ahS:=fH.out
 have ahT:=jv.out
 have axv:=Am.out
 have axw:=gp.out
 have ahU:=EC.out
 have ahV:=ED.out
 have ahW:=EE.out
 have axx:=Ao.out
 have axy:=lM.out
 have aDh:w34.cell? ⟨fV,2,none⟩ = some (.int .i64 0):=(aa jD.out 2).trans rfl
 have aqM:=aX jD.out 2
 have ahX:=EB.out
 have ahY:=fH.out
 have ahZ:=jv.out
 have axz:=Am.out
 have axA:=gp.out
 have ah0:=EC.out
 have ah1:=ED.out
 have ah2:=EE.out
 have axB:=Ao.out
 have axC:=lM.out
 have aJa:w34.cell? ⟨fV,3,none⟩ = some (.int .i64 0):=(aa jD.out 3).trans rfl
 have aGo:=aX jD.out 3
 have axD:=EB.out
 have axE:=fH.out
 have axF:=jv.out
 have axG:=Am.out
 have axH:=gp.out
 have axI:=EC.out
 have axJ:=ED.out
 have axK:=EE.out
 have axL:=Ao.out
 have axM:=lM.out
 refine yc (w1:=?_) (by rfl) rfl ?_ ?_
 rotate_left
 ·go_simp
  rfl
 refine hK.out _ _ ⟨((cell_far (p:=⟨fV,_,none⟩) jv.out _).trans (((cell_far (p:=⟨fV,_,none⟩) jv.out _).trans (((cell_far (p:=⟨fV,_,none⟩) jv.out _).trans (((cell_far (p:=⟨fV,_,none⟩) jv.out _).trans (hHeld.1)))))))),((cell_far (p:=⟨fV,_,none⟩) jv.out _).trans (((cell_far (p:=⟨fV,_,none⟩) jv.out _).trans (((cell_far (p:=⟨fV,_,none⟩) jv.out _).trans (((cell_far (p:=⟨fV,_,none⟩) jv.out _).trans (hHeld.2.1)))))))),((cell_far (p:=⟨fV,_,none⟩) jv.out _).trans (((cell_far (p:=⟨fV,_,none⟩) jv.out _).trans (((cell_far (p:=⟨fV,_,none⟩) jv.out _).trans (((cell_far (p:=⟨fV,_,none⟩) jv.out _).trans (hHeld.2.2.1)))))))),((cell_far (p:=⟨fV,_,none⟩) jv.out _).trans (((cell_far (p:=⟨fV,_,none⟩) jv.out _).trans (((cell_far (p:=⟨fV,_,none⟩) jv.out _).trans (((cell_far (p:=⟨fV,_,none⟩) jv.out _).trans (hHeld.2.2.2.1)))))))),((cell_far (p:=⟨fV,_,none⟩) fH.out _).trans (((cell_far (p:=⟨fV,_,none⟩) fH.out _).trans (((cell_far (p:=⟨fV,_,none⟩) fH.out _).trans (((cell_far (p:=⟨fV,_,none⟩) fH.out _).trans (hHeld.2.2.2.2.1)))))))),((cell_far (p:=⟨fV,_,none⟩) fH.out _).trans (((cell_far (p:=⟨fV,_,none⟩) fH.out _).trans (((cell_far (p:=⟨fV,_,none⟩) fH.out _).trans (((cell_far (p:=⟨fV,_,none⟩) fH.out _).trans (hHeld.2.2.2.2.2.1)))))))),((cell_far (p:=⟨fV,_,none⟩) fH.out _).trans (((cell_far (p:=⟨fV,_,none⟩) fH.out _).trans (((cell_far (p:=⟨fV,_,none⟩) fH.out _).trans (((cell_far (p:=⟨fV,_,none⟩) fH.out _).trans (hHeld.2.2.2.2.2.2.1)))))))),((cell_far (p:=⟨fV,_,none⟩) fH.out _).trans (((cell_far (p:=⟨fV,_,none⟩) fH.out _).trans (((cell_far (p:=⟨fV,_,none⟩) fH.out _).trans (((cell_far (p:=⟨fV,_,none⟩) fH.out _).trans (hHeld.2.2.2.2.2.2.2.1)))))))),((cell_far (p:=⟨fV,_,none⟩) fH.out _).trans (((cell_far (p:=⟨fV,_,none⟩) fH.out _).trans (((cell_far (p:=⟨fV,_,none⟩) fH.out _).trans (((cell_far (p:=⟨fV,_,none⟩) fH.out _).trans (hHeld.2.2.2.2.2.2.2.2.1)))))))),((cell_far (p:=⟨fV,_,none⟩) fH.out _).trans (((cell_far (p:=⟨fV,_,none⟩) fH.out _).trans (((cell_far (p:=⟨fV,_,none⟩) fH.out _).trans (((cell_far (p:=⟨fV,_,none⟩) fH.out _).trans (hHeld.2.2.2.2.2.2.2.2.2.1)))))))),((cell_far (p:=⟨fV,_,none⟩) fH.out _).trans (((cell_far (p:=⟨fV,_,none⟩) fH.out _).trans (((cell_far (p:=⟨fV,_,none⟩) fH.out _).trans (((cell_far (p:=⟨fV,_,none⟩) fH.out _).trans (hHeld.2.2.2.2.2.2.2.2.2.2.1)))))))),((cell_far (p:=⟨fV,_,none⟩) gp.out _).trans (((cell_far (p:=⟨fV,_,none⟩) gp.out _).trans (((cell_far (p:=⟨fV,_,none⟩) gp.out _).trans (((cell_far (p:=⟨fV,_,none⟩) gp.out _).trans (hHeld.2.2.2.2.2.2.2.2.2.2.2.1)))))))),((cell_far (p:=⟨fV,_,none⟩) gp.out _).trans (((cell_far (p:=⟨fV,_,none⟩) gp.out _).trans (((cell_far (p:=⟨fV,_,none⟩) gp.out _).trans (((cell_far (p:=⟨fV,_,none⟩) gp.out _).trans (hHeld.2.2.2.2.2.2.2.2.2.2.2.2.1)))))))),((cell_far (p:=⟨fV,_,none⟩) gp.out _).trans (((cell_far (p:=⟨fV,_,none⟩) gp.out _).trans (((cell_far (p:=⟨fV,_,none⟩) gp.out _).trans (((cell_far (p:=⟨fV,_,none⟩) gp.out _).trans (hHeld.2.2.2.2.2.2.2.2.2.2.2.2.2.1)))))))),((cell_far (p:=⟨fV,_,none⟩) gp.out _).trans (((cell_far (p:=⟨fV,_,none⟩) gp.out _).trans (((cell_far (p:=⟨fV,_,none⟩) gp.out _).trans (((cell_far (p:=⟨fV,_,none⟩) gp.out _).trans (hHeld.2.2.2.2.2.2.2.2.2.2.2.2.2.2))))))))⟩ (fun hHeld=>?_)
 clear hK K
 refine lC (kF bN.out aR) ?_
 try go_wp2
 refine bodyPost_ret (results_cell_row rfl _ _ fV 31 #[.int .i64 Xq,.int .i64 acb,.int .i64 ahK,.int .i64 anm] (0,0) _ rfl (by (with_reducible repeat (first|refine au ?_ _|refine ah ?_|refine ag ?_ _));refine aI (cs:=#[.int .i64 Xq,.int .i64 acb,.int .i64 ahK,.int .i64 0]) ?_ 3 _ rfl;(with_reducible repeat (first|refine au ?_ _|refine ah ?_|refine ag ?_ _));refine aI (cs:=#[.int .i64 Xq,.int .i64 acb,.int .i64 0,.int .i64 0]) ?_ 2 _ rfl;(with_reducible repeat (first|refine au ?_ _|refine ah ?_|refine ag ?_ _));refine aI (cs:=#[.int .i64 Xq,.int .i64 0,.int .i64 0,.int .i64 0]) ?_ 1 _ rfl;(with_reducible repeat (first|refine au ?_ _|refine ah ?_|refine ag ?_ _));refine aI (cs:=#[.int .i64 0,.int .i64 0,.int .i64 0,.int .i64 0]) ?_ 0 _ rfl;(with_reducible repeat (first|refine au ?_ _|refine ah ?_|refine ag ?_ _));exact jD.out) Try.underlying31 rfl aR) rfl ?_
 exact ⟨lJ,gM⟩
end Go.Proofs.Ytmhaiihjfgfaoaa.Pr
end
