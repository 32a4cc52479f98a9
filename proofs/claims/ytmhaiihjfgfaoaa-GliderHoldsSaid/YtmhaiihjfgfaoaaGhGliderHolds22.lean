import Derived.Test.YtmhaiihjfgfaoaaGhGliderHolds3
import Derived.Test.YtmhaiihjfgfaoaaGhGliderHolds18
import Derived.Test.YtmhaiihjfgfaoaaGhGliderHolds17
import Derived.Test.YtmhaiihjfgfaoaaGhGliderHolds19
section
namespace Go.Proofs.Ytmhaiihjfgfaoaa.Pr
open Go.RowKit Go.Proofs.YtmhaiihjfgfaoaaW.PrintWords Go.Proofs.YtmhaiihjfgfaoaaW.PrintLast Go.Proofs.YtmhaiihjfgfaoaaW.PrintMore
attribute [local go_sem] cz cB dK dL cK
set_option linter.unusedVariables false
set_option linter.unusedSimpArgs false
def bu.l0:Nat→Int→Int→Int→Int→Int→Int→Int→Int→List Bool→List (nU)→Int→Int→Int→Int→Int→Int→Int→Int→Int→Int→Int→Option (Bool)
 |0,_,_,_,_,_,_,_,_,_,_,_,_,_,_,_,_,_,_,_,_,_=>none
 |k+1,x7,Js,Jt,M5,M6,M7,M8,M9,EF,Na,Sv,Sw,Sy,Sz,SA,SB,SC,SE,SF,SG,SH=>if x7 < (wrap64 (Js*Jt)) then (if 0≤x7 then (if x7 < (EF.length:Int) then (if Bj false EF x7 = true then ((eB.f k Js Jt M5 M6 M7 M8 M9 EF Na Sv Sw Sy Sz SA SB SC SE SF SG SH).bind fun yV=>((fO.f Js Jt M5 M6 M7 M8 M9 EF Na x7).bind fun sU=>((eu.f yV.1 yV.2.1 yV.2.2.1 yV.2.2.2 sU.1 sU.2.1 sU.2.2.1 sU.2.2.2).bind fun Ms=>(if Ms = true then (some false) else (bu.l0 k (wrap64 (x7+1)) Js Jt M5 M6 M7 M8 M9 EF Na Sv Sw Sy Sz SA SB SC SE SF SG SH))))) else (bu.l0 k (wrap64 (x7+1)) Js Jt M5 M6 M7 M8 M9 EF Na Sv Sw Sy Sz SA SB SC SE SF SG SH)) else (none)) else (none)) else (some true)
def bu.f (k:Nat) (aj:Int) (ak:Int) (ax:Int) (ay:Int) (aJ:Int) (aC:Int) (aG:Int) (aN:List Bool) (av:List (nU)) (aU:Int) (aQ:Int) (aZ:Int) (bf:Int) (bE:Int) (bF:Int) (bG:Int) (bP:Int) (bQ:Int) (bR:Int) (bS:Int):Option (Bool):=bu.l0 k 0 aj ak ax ay aJ aC aG aN av aU aQ aZ bf bE bF bG bP bQ bR bS
def bu.T4:Bool × List (List Nat × List Nat):=(true,[([],[]),([0],[0]),([],[]),([1,2],[1,2]),([3],[3]),([4],[4]),([5],[5]),([5],[5]),([5],[5]),([6,7,8,5,5],[5,6,7,8]),([5],[5]),([5],[5]),([10,11,9,5],[5,10,11]),([9,12,12,5],[5,9,12]),([5,13],[5,13])])
def bu.B4:List Nat:=[0,1,0,7,15,31,63,63,63,511,63,63,4095,8191,16383]
theorem bu.abw:oQ .any (opsOf Try.f123 4) = bu.T4:=by kernel_rfl
theorem bu.Qy:lI bu.T4.2 bu.B4 = true:=by kernel_rfl
set_option maxHeartbeats 8000000 in
set_option maxRecDepth 100000 in
theorem bu.calls (k:Nat) (aj:Int) (ak:Int) (ax:Int) (ay:Int) (aJ:Int) (aC:Int) (aG:Int) (dH:Option Addr) (dD:Nat) (aN:List Bool) (dG:Option Addr) (dE:Nat) (av:List (nU)) (aU:Int) (aQ:Int) (aZ:Int) (bf:Int) (bE:Int) (bF:Int) (bG:Int) (bP:Int) (bQ:Int) (bR:Int) (bS:Int) (r:Bool) (w:World) (iW:Kd.C Kd.bool w dH aN.length aN) (iX:aN.length≤dD) (iY:Kd.C CY w dG av.length av) (iZ:av.length≤dE) (h:bu.f k aj ak ax ay aJ aC aG aN av aU aQ aZ bf bE bF bG bP bQ bR bS = some r):
 Calls Try.prog 123 #[.agg #[.int .i64 aj,.int .i64 ak,.int .i64 ax,.int .i64 ay,.int .i64 aJ,.int .i64 aC,.int .i64 aG,.slice dH aN.length dD,.slice dG av.length dE],.agg #[.int .i64 aU,.int .i64 aQ,.int .i64 aZ,.int .i64 bf,.int .i64 bE,.int .i64 bF,.int .i64 bG],.agg #[.int .i64 bP,.int .i64 bQ,.int .i64 bR,.int .i64 bS]] w fun e w'=>e = .returned (.bool r)∧Below w.heap.size w w':=by
 have xE:=Try.underlying25
 have BL:=Try.underlying29
 have qP:=Try.underlying31
 have gq:=ae.mk iW
 have gG:=ae.mk iX
 clear iW iX
 have fF:=ae.mk iY
 have gH:=ae.mk iZ
 clear iY iZ
 have HB:=ae.mk (Below.refl w.heap.size w)
 have H:(bu.l0 k 0 aj ak ax ay aJ aC aG aN av aU aQ aZ bf bE bF bG bP bQ bR bS) = some r:=h
 clear h
 have H':=ae.mk H
 clear H
 go_enter Try.func123,Try.ntmps123
 go_wp2_with (first|((with_reducible refine aA (N:=3) rfl ?_);refine az (by rfl) (N:=3) (by rfl) (cs:=#[.int .i64 aj,.int .i64 ak,.int .i64 ax,.int .i64 ay,.int .i64 aJ,.int .i64 aC,.int .i64 aG,.slice dH aN.length dD,.slice dG av.length dE]) (t:=25) gQ ?_;intro nA hg w4 hbox hb;have jV:=ae.mk (hbox);have aGp:=dn HB hg;have aGq:=dn HB hg;replace HB:=dF HB hb;clear hb hbox hg)|((with_reducible refine aA (N:=4) rfl ?_);refine az (by rfl) (N:=4) (by rfl) (cs:=#[.int .i64 aU,.int .i64 aQ,.int .i64 aZ,.int .i64 bf,.int .i64 bE,.int .i64 bF,.int .i64 bG]) (t:=29) gQ ?_;intro xQ hg w5 hbox hb;have fB:=ae.mk (hbox);have aGr:=dn HB hg;have aGs:=dn HB hg;have EG:=iE jV hg;have EH:=iF jV hg;replace jV:=bC jV hb;replace HB:=dF HB hb;clear hb hbox hg)|((with_reducible refine aA (N:=5) rfl ?_);refine az (by rfl) (N:=5) (by rfl) (cs:=#[.int .i64 bP,.int .i64 bQ,.int .i64 bR,.int .i64 bS]) (t:=31) gQ ?_;intro Ju hg w6 hbox hb;have iO:=ae.mk (hbox);have aGt:=dn HB hg;have aGu:=dn HB hg;have EI:=iE jV hg;have EJ:=iF jV hg;have aor:=iE fB hg;have aos:=iF fB hg;replace jV:=bC jV hb;replace fB:=bC fB hb;replace HB:=dF HB hb;clear hb hbox hg))
 go_loopg [7] k (fun kq v7 w'=>∃ (jc:Int),v7 = .int .i64 jc∧ae (bu.l0 kq jc aj ak ax ay aJ aC aG aN av aU aQ aZ bf bE bF bG bP bQ bR bS = some r)∧ae (kq≤k)∧ae (w'.heap[nA]? = some (.cells #[.int .i64 aj,.int .i64 ak,.int .i64 ax,.int .i64 ay,.int .i64 aJ,.int .i64 aC,.int .i64 aG,(.slice dH aN.length dD),(.slice dG av.length dE)] 25 (0,0)))∧ae (w'.heap[xQ]? = some (.cells #[.int .i64 aU,.int .i64 aQ,.int .i64 aZ,.int .i64 bf,.int .i64 bE,.int .i64 bF,.int .i64 bG] 29 (0,0)))∧ae (w'.heap[Ju]? = some (.cells #[.int .i64 bP,.int .i64 bQ,.int .i64 bR,.int .i64 bS] 31 (0,0)))∧ae (Below w.heap.size w w'))
 case atStart=>exact ⟨(0),nI,H',⟨Nat.le_refl _⟩,⟨iq⟩,⟨iq⟩,⟨iq⟩,⟨gM⟩⟩
 case round =>
  clear H'
  try clear c1
  try clear p2
  obtain ⟨jc,rfl,HA,Mi,jV,fB,iO,HB⟩:=hrel
  cases gk with
  |zero=>exact absurd HA.out (by simp [bu.l0])
  |succ k1 =>
   have H:=HA.out
   clear HA
   simp only [bu.l0] at H
   by_cases c7:jc < (wrap64 (aj*ak))
   ·rw [if_pos c7] at H
    have WX:decide (jc < (wrap64 (aj*ak))) = true:=decide_eq_true c7
    clear c7
    by_cases c8:0≤jc
    ·rw [if_pos c8] at H
     have Lb:decide (0≤jc) = true:=decide_eq_true c8
     clear c8
     by_cases c9:jc < (aN.length:Int)
     ·rw [if_pos c9] at H
      have U4:decide (jc < (aN.length:Int)) = true:=decide_eq_true c9
      clear c9
      obtain ⟨aqN,aeA⟩:∃ b_:Bool,b_ = (Bj false aN jc):=⟨_,rfl⟩
      replace H:(if aqN = true then ((eB.f k1 aj ak ax ay aJ aC aG aN av aU aQ aZ bf bE bF bG bP bQ bR bS).bind fun yV=>((fO.f aj ak ax ay aJ aC aG aN av jc).bind fun sU=>((eu.f yV.1 yV.2.1 yV.2.2.1 yV.2.2.2 sU.1 sU.2.1 sU.2.2.1 sU.2.2.2).bind fun Ms=>(if Ms = true then (some false) else (bu.l0 k1 (wrap64 (jc+1)) aj ak ax ay aJ aC aG aN av aU aQ aZ bf bE bF bG bP bQ bR bS))))) else (bu.l0 k1 (wrap64 (jc+1)) aj ak ax ay aJ aC aG aN av aU aQ aZ bf bE bF bG bP bQ bR bS)) = some r:=by rw [← aeA] at H;exact H
      have aeB:=ae.mk aeA
      clear aeA
      by_cases c11:aqN = true
      ·subst c11
       have H1:((eB.f k1 aj ak ax ay aJ aC aG aN av aU aQ aZ bf bE bF bG bP bQ bR bS).bind fun yV=>((fO.f aj ak ax ay aJ aC aG aN av jc).bind fun sU=>((eu.f yV.1 yV.2.1 yV.2.2.1 yV.2.2.2 sU.1 sU.2.1 sU.2.2.1 sU.2.2.2).bind fun Ms=>(if Ms = true then (some false) else (bu.l0 k1 (wrap64 (jc+1)) aj ak ax ay aJ aC aG aN av aU aQ aZ bf bE bF bG bP bQ bR bS))))) = some r:=by rw [if_pos rfl] at H;exact H
       clear H
       have H:=H1
       clear H1
       replace H:=Option.bind_eq_some_iff.mp H
       obtain ⟨⟨Vq,Vr,Vs,Vt⟩,Vu,H⟩:=H
       replace H:((fO.f aj ak ax ay aJ aC aG aN av jc).bind fun sU=>((eu.f Vq Vr Vs Vt sU.1 sU.2.1 sU.2.2.1 sU.2.2.2).bind fun Ms=>(if Ms = true then (some false) else (bu.l0 k1 (wrap64 (jc+1)) aj ak ax ay aJ aC aG aN av aU aQ aZ bf bE bF bG bP bQ bR bS)))) = some r:=H
       have A12:=ae.mk Vu
       clear Vu
       replace H:=Option.bind_eq_some_iff.mp H
       obtain ⟨⟨Xr,Xt,Xu,Xv⟩,U3,H⟩:=H
       replace H:((eu.f Vq Vr Vs Vt Xr Xt Xu Xv).bind fun Ms=>(if Ms = true then (some false) else (bu.l0 k1 (wrap64 (jc+1)) aj ak ax ay aJ aC aG aN av aU aQ aZ bf bE bF bG bP bQ bR bS))) = some r:=H
       have A13:=ae.mk U3
       clear U3
       replace H:=Option.bind_eq_some_iff.mp H
       obtain ⟨Ms,Vv,H⟩:=H
       replace H:(if Ms = true then (some false) else (bu.l0 k1 (wrap64 (jc+1)) aj ak ax ay aJ aC aG aN av aU aQ aZ bf bE bF bG bP bQ bR bS)) = some r:=H
       have ZL:=ae.mk Vv
       clear Vv
       by_cases c15:Ms = true
       ·subst c15
        have H1:(some false) = some r:=by rw [if_pos rfl] at H;exact H
        clear H
        have H:=H1
        clear H1
        obtain rfl:=Option.some.inj H
        have QF:=EG.out
        have QG:=EH.out
        have QM:=EI.out
        have QN:=EJ.out
        obtain ⟨si,sj,su,sw,yX,yY,yZ,za,zb,sD,sF,sG,sH,ze,zf,zg,zh,zi⟩:=iI jV.out
        try go_wp2
        replace jV:=ae.mk (ah jV.out)
        replace fB:=ae.mk (ah fB.out)
        replace iO:=ae.mk (ah iO.out)
        replace HB:=ae.mk (bW HB.out)
        have Pv:0≤(jc:Int):=of_decide_eq_true lX
        have Pw:jc < (aN.length:Int):=of_decide_eq_true lX
        obtain ⟨C9,aeC,lN⟩:=Kd.Mx gq.out jc Pv Pw
        (try rw [← aeB.out] at lN)
        have lQ:=lN
        cases aeC
        replace lN:=(HB.out.cell (World.block_lt_of_cell? w _ lN)).trans lN
        replace Pv:=eq_true Pv
        replace Pw:=eq_true Pw
        refine jI (n:=15) (S:=fun w'=>w'.cell? ⟨nA,0,none⟩ = some (.int .i64 aj)∧w'.cell? ⟨nA,1,none⟩ = some (.int .i64 ak)∧w'.cell? ⟨nA,2,none⟩ = some (.int .i64 ax)∧w'.cell? ⟨nA,3,none⟩ = some (.int .i64 ay)∧w'.cell? ⟨nA,4,none⟩ = some (.int .i64 aJ)∧w'.cell? ⟨nA,5,none⟩ = some (.int .i64 aC)∧w'.cell? ⟨nA,6,none⟩ = some (.int .i64 aG)∧w'.cell? ⟨nA,7,none⟩ = some (.slice (some C9) aN.length dD)∧w'.cell? ⟨nA,8,none⟩ = some (.slice dG av.length dE)∧w'.cell? ⟨xQ,0,none⟩ = some (.int .i64 aU)∧w'.cell? ⟨xQ,1,none⟩ = some (.int .i64 aQ)∧w'.cell? ⟨xQ,2,none⟩ = some (.int .i64 aZ)∧w'.cell? ⟨xQ,3,none⟩ = some (.int .i64 bf)∧w'.cell? ⟨xQ,4,none⟩ = some (.int .i64 bE)∧w'.cell? ⟨xQ,5,none⟩ = some (.int .i64 bF)∧w'.cell? ⟨xQ,6,none⟩ = some (.int .i64 bG)∧w'.cell? ⟨Ju,0,none⟩ = some (.int .i64 bP)∧w'.cell? ⟨Ju,1,none⟩ = some (.int .i64 bQ)∧w'.cell? ⟨Ju,2,none⟩ = some (.int .i64 bR)∧w'.cell? ⟨Ju,3,none⟩ = some (.int .i64 bS)∧w'.cell? (C9.add (jc).toNat) = some (.bool true)) (ds:=[]) #[false,false,false,false,false,false,false,false,false,false,false,false,false,false,false] aR rfl rfl (uq jV.out ⟨(aa fB.out 0).trans rfl,(aa fB.out 1).trans rfl,(aa fB.out 2).trans rfl,(aa fB.out 3).trans rfl,(aa fB.out 4).trans rfl,(aa fB.out 5).trans rfl,(aa fB.out 6).trans rfl,(aa iO.out 0).trans rfl,(aa iO.out 1).trans rfl,(aa iO.out 2).trans rfl,(aa iO.out 3).trans rfl,((HB.out.cell (World.block_lt_of_cell? w _ lQ)).trans lQ)⟩) (fun hHeld=>?_);refine iM bu.abw bu.Qy (fun bN jX=>?_)
        generalize wr.drew = w19 at jV fB iO HB lN hHeld ⊢
        refine dJ (i:=0) (N:=some 17) (aD bN.out aR) ?_
        refine dJ (i:=2) (N:=some 19) (aD bN.out aR) ?_
        refine ja (i:=1) (N:=some 18) (bq bN.out jX.out aR) hHeld ?_
        refine dJ (i:=3) (N:=some 20) (aD bN.out aR) ?_
        refine ja (i:=4) (N:=some 21) (bq bN.out jX.out aR) hHeld ?_
        refine dJ (i:=5) (N:=some 22) (aD bN.out aR) ?_
        refine dJ (i:=11) (N:=some 28) (aD bN.out aR) ?_
        refine ja (i:=6) (N:=some 23) (bq bN.out jX.out aR) hHeld ?_
        refine ja (i:=7) (N:=some 24) (bq bN.out jX.out aR) hHeld ?_
        refine ja (i:=8) (N:=some 25) (bq bN.out jX.out aR) hHeld ?_
        refine ja (i:=10) (N:=some 27) (bq bN.out jX.out aR) hHeld ?_
        refine jq (i:=9) (N:=some 26) #[true,true,true,true,true,true,true,true,true,true,true,true,false,false,false] rfl rfl (fE bN.out aR) (by decide) (fun K hK=>?_)
        refine gV Try.func133 aR rfl #[.agg #[.int .i64 aj,.int .i64 ak,.int .i64 ax,.int .i64 ay,.int .i64 aJ,.int .i64 aC,.int .i64 aG,.slice (some C9) aN.length dD,.slice dG av.length dE],.agg #[.int .i64 aU,.int .i64 aQ,.int .i64 aZ,.int .i64 bf,.int .i64 bE,.int .i64 bF,.int .i64 bG],.agg #[.int .i64 bP,.int .i64 bQ,.int .i64 bR,.int .i64 bS]] (by rfl) rfl rfl jJ ?_
        with_reducible refine (eB.calls k1 aj ak ax ay aJ aC aG _ _ aN _ _ av aU aQ aZ bf bE bF bG bP bQ bR bS Vq Vr Vs Vt _ ?dz ?dA ?dR ?dS A12.out).mono ?_
        (case dz=>repeat (first|exact (Kd.bn gq.out HB.out)|(with_reducible refine Kd.bA ?_ _)|(with_reducible refine Kd.bB ?_ _)|(with_reducible refine Kd.bK ?_)))
        (case dA=>exact gG.out)
        (case dR=>repeat (first|exact (Kd.bn fF.out HB.out)|(with_reducible refine Kd.bA ?_ _)|(with_reducible refine Kd.bB ?_ _)|(with_reducible refine Kd.bK ?_)))
        (case dS=>exact gH.out)
        rintro e D7 ⟨rfl,hb⟩
        refine ⟨_,rfl,?_⟩
        replace jV:=bC jV hb
        replace fB:=bC fB hb
        replace iO:=bC iO hb
        replace HB:=dF HB hb
        (try clear hb)
        (try clear hb2)
        (try clear hk)
        (try clear hi)
        refine hK.out _ _ (uq jV.out ⟨(aa fB.out 0).trans rfl,(aa fB.out 1).trans rfl,(aa fB.out 2).trans rfl,(aa fB.out 3).trans rfl,(aa fB.out 4).trans rfl,(aa fB.out 5).trans rfl,(aa fB.out 6).trans rfl,(aa iO.out 0).trans rfl,(aa iO.out 1).trans rfl,(aa iO.out 2).trans rfl,(aa iO.out 3).trans rfl,((HB.out.cell (World.block_lt_of_cell? w _ lQ)).trans lQ)⟩) (fun hHeld=>?_)
        clear hK K
        refine ek aqO ?_
        refine jq (i:=12) (N:=some 29) #[true,true,true,true,true,true,true,true,true,true,true,true,true,false,false] rfl rfl (fE bN.out aR) (by decide) (fun K hK=>?_)
        refine gV Try.func42 aR rfl #[.agg #[.int .i64 aj,.int .i64 ak,.int .i64 ax,.int .i64 ay,.int .i64 aJ,.int .i64 aC,.int .i64 aG,.slice (some C9) aN.length dD,.slice dG av.length dE],.int .i64 jc] (by rfl) rfl rfl jJ ?_
        with_reducible refine (fO.calls aj ak ax ay aJ aC aG _ _ aN _ _ av jc Xr Xt Xu Xv _ ?dz ?dA ?dR ?dS A13.out).mono ?_
        (case dz=>repeat (first|exact (Kd.bn gq.out HB.out)|(with_reducible refine Kd.bA ?_ _)|(with_reducible refine Kd.bB ?_ _)|(with_reducible refine Kd.bK ?_)))
        (case dA=>exact gG.out)
        (case dR=>repeat (first|exact (Kd.bn fF.out HB.out)|(with_reducible refine Kd.bA ?_ _)|(with_reducible refine Kd.bB ?_ _)|(with_reducible refine Kd.bK ?_)))
        (case dS=>exact gH.out)
        rintro e w21 ⟨rfl,hb⟩
        refine ⟨_,rfl,?_⟩
        replace jV:=bC jV hb
        replace fB:=bC fB hb
        replace iO:=bC iO hb
        replace HB:=dF HB hb
        (try clear hb)
        (try clear hb2)
        (try clear hk)
        (try clear hi)
        refine hK.out _ _ (uq jV.out ⟨(aa fB.out 0).trans rfl,(aa fB.out 1).trans rfl,(aa fB.out 2).trans rfl,(aa fB.out 3).trans rfl,(aa fB.out 4).trans rfl,(aa fB.out 5).trans rfl,(aa fB.out 6).trans rfl,(aa iO.out 0).trans rfl,(aa iO.out 1).trans rfl,(aa iO.out 2).trans rfl,(aa iO.out 3).trans rfl,((HB.out.cell (World.block_lt_of_cell? w _ lQ)).trans lQ)⟩) (fun hHeld=>?_)
        clear hK K
        refine ek adx ?_
        refine jq (i:=13) (N:=some 30) #[true,true,true,true,true,true,true,true,true,true,true,true,true,true,false] rfl rfl (fE bN.out aR) (by decide) (fun K hK=>?_)
        refine gV Try.func104 aR rfl #[.agg #[.int .i64 Vq,.int .i64 Vr,.int .i64 Vs,.int .i64 Vt],.agg #[.int .i64 Xr,.int .i64 Xt,.int .i64 Xu,.int .i64 Xv]] (by rfl) rfl rfl jJ ?_
        with_reducible refine (eu.calls Vq Vr Vs Vt Xr Xt Xu Xv true _ ZL.out).mono ?_
        rintro e w22 ⟨rfl,hb⟩
        refine ⟨_,rfl,?_⟩
        replace jV:=bC jV hb
        replace fB:=bC fB hb
        replace iO:=bC iO hb
        replace HB:=dF HB hb
        (try clear hb)
        (try clear hb2)
        (try clear hk)
        (try clear hi)
        refine hK.out _ _ (uq jV.out ⟨(aa fB.out 0).trans rfl,(aa fB.out 1).trans rfl,(aa fB.out 2).trans rfl,(aa fB.out 3).trans rfl,(aa fB.out 4).trans rfl,(aa fB.out 5).trans rfl,(aa fB.out 6).trans rfl,(aa iO.out 0).trans rfl,(aa iO.out 1).trans rfl,(aa iO.out 2).trans rfl,(aa iO.out 3).trans rfl,((HB.out.cell (World.block_lt_of_cell? w _ lQ)).trans lQ)⟩) (fun hHeld=>?_)
        clear hK K
        refine ek aqP ?_
        refine dJ (i:=14) (N:=some 31) (aD bN.out aR) ?_
        refine lC (kF bN.out aR) ?_
        try go_wp2
        go_ret
        exact ⟨lJ,gM⟩
       ·replace c15:=Bool.eq_false_iff.mpr c15
        subst c15
        have H1:(bu.l0 k1 (wrap64 (jc+1)) aj ak ax ay aJ aC aG aN av aU aQ aZ bf bE bF bG bP bQ bR bS) = some r:=by rw [if_neg (show ¬ (false = true) by decide)] at H;exact H
        clear H
        have H:=H1
        clear H1
        have H':=ae.mk H
        clear H
        have YK:=EG.out
        have YL:=EH.out
        have alg:=EI.out
        have alh:=EJ.out
        obtain ⟨zk,zl,zm,zn,Cv,Cw,Cx,Nb,Nc,zo,zq,zt,zu,Cy,Cz,CB,Nf,Ng⟩:=iI jV.out
        try go_wp2
        replace jV:=ae.mk (ah jV.out)
        replace fB:=ae.mk (ah fB.out)
        replace iO:=ae.mk (ah iO.out)
        replace HB:=ae.mk (bW HB.out)
        have Pv:0≤(jc:Int):=of_decide_eq_true lX
        have Pw:jc < (aN.length:Int):=of_decide_eq_true lX
        obtain ⟨C9,aeC,lN⟩:=Kd.Mx gq.out jc Pv Pw
        (try rw [← aeB.out] at lN)
        have lQ:=lN
        cases aeC
        replace lN:=(HB.out.cell (World.block_lt_of_cell? w _ lN)).trans lN
        replace Pv:=eq_true Pv
        replace Pw:=eq_true Pw
        refine jI (n:=15) (S:=fun w'=>w'.cell? ⟨nA,0,none⟩ = some (.int .i64 aj)∧w'.cell? ⟨nA,1,none⟩ = some (.int .i64 ak)∧w'.cell? ⟨nA,2,none⟩ = some (.int .i64 ax)∧w'.cell? ⟨nA,3,none⟩ = some (.int .i64 ay)∧w'.cell? ⟨nA,4,none⟩ = some (.int .i64 aJ)∧w'.cell? ⟨nA,5,none⟩ = some (.int .i64 aC)∧w'.cell? ⟨nA,6,none⟩ = some (.int .i64 aG)∧w'.cell? ⟨nA,7,none⟩ = some (.slice (some C9) aN.length dD)∧w'.cell? ⟨nA,8,none⟩ = some (.slice dG av.length dE)∧w'.cell? ⟨xQ,0,none⟩ = some (.int .i64 aU)∧w'.cell? ⟨xQ,1,none⟩ = some (.int .i64 aQ)∧w'.cell? ⟨xQ,2,none⟩ = some (.int .i64 aZ)∧w'.cell? ⟨xQ,3,none⟩ = some (.int .i64 bf)∧w'.cell? ⟨xQ,4,none⟩ = some (.int .i64 bE)∧w'.cell? ⟨xQ,5,none⟩ = some (.int .i64 bF)∧w'.cell? ⟨xQ,6,none⟩ = some (.int .i64 bG)∧w'.cell? ⟨Ju,0,none⟩ = some (.int .i64 bP)∧w'.cell? ⟨Ju,1,none⟩ = some (.int .i64 bQ)∧w'.cell? ⟨Ju,2,none⟩ = some (.int .i64 bR)∧w'.cell? ⟨Ju,3,none⟩ = some (.int .i64 bS)∧w'.cell? (C9.add (jc).toNat) = some (.bool true)) (ds:=[]) #[false,false,false,false,false,false,false,false,false,false,false,false,false,false,false] aR rfl rfl (uq jV.out ⟨(aa fB.out 0).trans rfl,(aa fB.out 1).trans rfl,(aa fB.out 2).trans rfl,(aa fB.out 3).trans rfl,(aa fB.out 4).trans rfl,(aa fB.out 5).trans rfl,(aa fB.out 6).trans rfl,(aa iO.out 0).trans rfl,(aa iO.out 1).trans rfl,(aa iO.out 2).trans rfl,(aa iO.out 3).trans rfl,((HB.out.cell (World.block_lt_of_cell? w _ lQ)).trans lQ)⟩) (fun hHeld=>?_);refine iM bu.abw bu.Qy (fun bN jX=>?_)
        generalize wr.drew = yU at jV fB iO HB lN hHeld ⊢
        refine dJ (i:=0) (N:=some 17) (aD bN.out aR) ?_
        refine dJ (i:=2) (N:=some 19) (aD bN.out aR) ?_
        refine ja (i:=1) (N:=some 18) (bq bN.out jX.out aR) hHeld ?_
        refine dJ (i:=3) (N:=some 20) (aD bN.out aR) ?_
        refine ja (i:=4) (N:=some 21) (bq bN.out jX.out aR) hHeld ?_
        refine dJ (i:=5) (N:=some 22) (aD bN.out aR) ?_
        refine dJ (i:=11) (N:=some 28) (aD bN.out aR) ?_
        refine ja (i:=6) (N:=some 23) (bq bN.out jX.out aR) hHeld ?_
        refine ja (i:=7) (N:=some 24) (bq bN.out jX.out aR) hHeld ?_
        refine ja (i:=8) (N:=some 25) (bq bN.out jX.out aR) hHeld ?_
        refine ja (i:=10) (N:=some 27) (bq bN.out jX.out aR) hHeld ?_
        refine jq (i:=9) (N:=some 26) #[true,true,true,true,true,true,true,true,true,true,true,true,false,false,false] rfl rfl (fE bN.out aR) (by decide) (fun K hK=>?_)
        refine gV Try.func133 aR rfl #[.agg #[.int .i64 aj,.int .i64 ak,.int .i64 ax,.int .i64 ay,.int .i64 aJ,.int .i64 aC,.int .i64 aG,.slice (some C9) aN.length dD,.slice dG av.length dE],.agg #[.int .i64 aU,.int .i64 aQ,.int .i64 aZ,.int .i64 bf,.int .i64 bE,.int .i64 bF,.int .i64 bG],.agg #[.int .i64 bP,.int .i64 bQ,.int .i64 bR,.int .i64 bS]] (by rfl) rfl rfl jJ ?_
        with_reducible refine (eB.calls k1 aj ak ax ay aJ aC aG _ _ aN _ _ av aU aQ aZ bf bE bF bG bP bQ bR bS Vq Vr Vs Vt _ ?dz ?dA ?dR ?dS A12.out).mono ?_
        (case dz=>repeat (first|exact (Kd.bn gq.out HB.out)|(with_reducible refine Kd.bA ?_ _)|(with_reducible refine Kd.bB ?_ _)|(with_reducible refine Kd.bK ?_)))
        (case dA=>exact gG.out)
        (case dR=>repeat (first|exact (Kd.bn fF.out HB.out)|(with_reducible refine Kd.bA ?_ _)|(with_reducible refine Kd.bB ?_ _)|(with_reducible refine Kd.bK ?_)))
        (case dS=>exact gH.out)
        rintro e w27 ⟨rfl,hb⟩
        refine ⟨_,rfl,?_⟩
        replace jV:=bC jV hb
        replace fB:=bC fB hb
        replace iO:=bC iO hb
        replace HB:=dF HB hb
        (try clear hb)
        (try clear hb2)
        (try clear hk)
        (try clear hi)
        refine hK.out _ _ (uq jV.out ⟨(aa fB.out 0).trans rfl,(aa fB.out 1).trans rfl,(aa fB.out 2).trans rfl,(aa fB.out 3).trans rfl,(aa fB.out 4).trans rfl,(aa fB.out 5).trans rfl,(aa fB.out 6).trans rfl,(aa iO.out 0).trans rfl,(aa iO.out 1).trans rfl,(aa iO.out 2).trans rfl,(aa iO.out 3).trans rfl,((HB.out.cell (World.block_lt_of_cell? w _ lQ)).trans lQ)⟩) (fun hHeld=>?_)
        clear hK K
        refine ek aqO ?_
        refine jq (i:=12) (N:=some 29) #[true,true,true,true,true,true,true,true,true,true,true,true,true,false,false] rfl rfl (fE bN.out aR) (by decide) (fun K hK=>?_)
        refine gV Try.func42 aR rfl #[.agg #[.int .i64 aj,.int .i64 ak,.int .i64 ax,.int .i64 ay,.int .i64 aJ,.int .i64 aC,.int .i64 aG,.slice (some C9) aN.length dD,.slice dG av.length dE],.int .i64 jc] (by rfl) rfl rfl jJ ?_
        with_reducible refine (fO.calls aj ak ax ay aJ aC aG _ _ aN _ _ av jc Xr Xt Xu Xv _ ?dz ?dA ?dR ?dS A13.out).mono ?_
        (case dz=>repeat (first|exact (Kd.bn gq.out HB.out)|(with_reducible refine Kd.bA ?_ _)|(with_reducible refine Kd.bB ?_ _)|(with_reducible refine Kd.bK ?_)))
        (case dA=>exact gG.out)
        (case dR=>repeat (first|exact (Kd.bn fF.out HB.out)|(with_reducible refine Kd.bA ?_ _)|(with_reducible refine Kd.bB ?_ _)|(with_reducible refine Kd.bK ?_)))
        (case dS=>exact gH.out)
        rintro e w28 ⟨rfl,hb⟩
        refine ⟨_,rfl,?_⟩
        replace jV:=bC jV hb
        replace fB:=bC fB hb
        replace iO:=bC iO hb
        replace HB:=dF HB hb
        (try clear hb)
        (try clear hb2)
        (try clear hk)
        (try clear hi)
        refine hK.out _ _ (uq jV.out ⟨(aa fB.out 0).trans rfl,(aa fB.out 1).trans rfl,(aa fB.out 2).trans rfl,(aa fB.out 3).trans rfl,(aa fB.out 4).trans rfl,(aa fB.out 5).trans rfl,(aa fB.out 6).trans rfl,(aa iO.out 0).trans rfl,(aa iO.out 1).trans rfl,(aa iO.out 2).trans rfl,(aa iO.out 3).trans rfl,((HB.out.cell (World.block_lt_of_cell? w _ lQ)).trans lQ)⟩) (fun hHeld=>?_)
        clear hK K
        refine ek adx ?_
        refine jq (i:=13) (N:=some 30) #[true,true,true,true,true,true,true,true,true,true,true,true,true,true,false] rfl rfl (fE bN.out aR) (by decide) (fun K hK=>?_)
        refine gV Try.func104 aR rfl #[.agg #[.int .i64 Vq,.int .i64 Vr,.int .i64 Vs,.int .i64 Vt],.agg #[.int .i64 Xr,.int .i64 Xt,.int .i64 Xu,.int .i64 Xv]] (by rfl) rfl rfl jJ ?_
        with_reducible refine (eu.calls Vq Vr Vs Vt Xr Xt Xu Xv false _ ZL.out).mono ?_
        rintro e w29 ⟨rfl,hb⟩
        refine ⟨_,rfl,?_⟩
        replace jV:=bC jV hb
        replace fB:=bC fB hb
        replace iO:=bC iO hb
        replace HB:=dF HB hb
        (try clear hb)
        (try clear hb2)
        (try clear hk)
        (try clear hi)
        refine hK.out _ _ (uq jV.out ⟨(aa fB.out 0).trans rfl,(aa fB.out 1).trans rfl,(aa fB.out 2).trans rfl,(aa fB.out 3).trans rfl,(aa fB.out 4).trans rfl,(aa fB.out 5).trans rfl,(aa fB.out 6).trans rfl,(aa iO.out 0).trans rfl,(aa iO.out 1).trans rfl,(aa iO.out 2).trans rfl,(aa iO.out 3).trans rfl,((HB.out.cell (World.block_lt_of_cell? w _ lQ)).trans lQ)⟩) (fun hHeld=>?_)
        clear hK K
        refine ek aqP ?_
        refine dJ (i:=14) (N:=some 31) (aD bN.out aR) ?_
        refine lC (kF bN.out aR) ?_
        try go_wp2
        go_roundg k1
        case measure=>have:=Mi.out;omega
        case rel=>exact ⟨(wrap64 (jc+1)),nI,H',⟨RF⟩,⟨iq⟩,⟨iq⟩,⟨iq⟩,⟨gM⟩⟩
      ·replace c11:=Bool.eq_false_iff.mpr c11
       subst c11
       have H1:(bu.l0 k1 (wrap64 (jc+1)) aj ak ax ay aJ aC aG aN av aU aQ aZ bf bE bF bG bP bQ bR bS) = some r:=by rw [if_neg (show ¬ (false = true) by decide)] at H;exact H
       clear H
       have H:=H1
       clear H1
       have H':=ae.mk H
       clear H
       have aeD:=EG.out
       have aeE:=EH.out
       have aGv:=EI.out
       have aGw:=EJ.out
       obtain ⟨ah3,ah4,ah5,ah6,axN,axO,axP,axQ,axR,ah7,ah8,ah9,aia,axS,axT,axU,axV,axW⟩:=iI jV.out
       try go_wp2
       replace jV:=ae.mk (ah jV.out)
       replace fB:=ae.mk (ah fB.out)
       replace iO:=ae.mk (ah iO.out)
       replace HB:=ae.mk (bW HB.out)
       have Pv:0≤(jc:Int):=of_decide_eq_true lX
       have Pw:jc < (aN.length:Int):=of_decide_eq_true lX
       obtain ⟨C9,aeC,lN⟩:=Kd.Mx gq.out jc Pv Pw
       (try rw [← aeB.out] at lN)
       have lQ:=lN
       cases aeC
       replace lN:=(HB.out.cell (World.block_lt_of_cell? w _ lN)).trans lN
       replace Pv:=eq_true Pv
       replace Pw:=eq_true Pw
       refine jI (n:=15) (S:=fun w'=>w'.cell? ⟨nA,0,none⟩ = some (.int .i64 aj)∧w'.cell? ⟨nA,1,none⟩ = some (.int .i64 ak)∧w'.cell? ⟨nA,2,none⟩ = some (.int .i64 ax)∧w'.cell? ⟨nA,3,none⟩ = some (.int .i64 ay)∧w'.cell? ⟨nA,4,none⟩ = some (.int .i64 aJ)∧w'.cell? ⟨nA,5,none⟩ = some (.int .i64 aC)∧w'.cell? ⟨nA,6,none⟩ = some (.int .i64 aG)∧w'.cell? ⟨nA,7,none⟩ = some (.slice (some C9) aN.length dD)∧w'.cell? ⟨nA,8,none⟩ = some (.slice dG av.length dE)∧w'.cell? (C9.add (jc).toNat) = some (.bool false)) (ds:=[]) #[false,false,false,false,false,false,false,false,false,false,false,false,false,false,false] aR rfl rfl (uq jV.out ((HB.out.cell (World.block_lt_of_cell? w _ lQ)).trans lQ)) (fun hHeld=>?_);refine iM bu.abw bu.Qy (fun bN jX=>?_)
       generalize wr.drew = Df at jV fB iO HB lN hHeld ⊢
       refine dJ (i:=0) (N:=some 17) (aD bN.out aR) ?_
       refine dJ (i:=2) (N:=some 19) (aD bN.out aR) ?_
       refine ja (i:=1) (N:=some 18) (bq bN.out jX.out aR) hHeld ?_
       refine dJ (i:=3) (N:=some 20) (aD bN.out aR) ?_
       refine ja (i:=4) (N:=some 21) (bq bN.out jX.out aR) hHeld ?_
       refine dJ (i:=5) (N:=some 22) (aD bN.out aR) ?_
       refine mU (i:=6) (N:=some 23) (v:=undef) (a':=?_) #[true,true,true,true,true,true,true,false,false,false,false,false,false,false,false] rfl rfl (aD bN.out aR) (fun _ _ _ h=>h) (Or.inr ⟨by rfl,rfl⟩) ?_ ?_
       rotate_left
       ·simp only [Act.put,List.setIfInBounds_toArray,List.set_cons_zero,List.set_cons_succ,fD,fJ]
        rfl
       refine mU (i:=7) (N:=some 24) (v:=undef) (a':=?_) #[true,true,true,true,true,true,true,true,false,false,false,false,false,false,false] rfl rfl (aD bN.out aR) (fun _ _ _ h=>h) (Or.inr ⟨by rfl,rfl⟩) ?_ ?_
       rotate_left
       ·simp only [Act.put,List.setIfInBounds_toArray,List.set_cons_zero,List.set_cons_succ,fD,fJ]
        rfl
       refine mU (i:=8) (N:=some 25) (v:=undef) (a':=?_) #[true,true,true,true,true,true,true,true,true,false,false,false,false,false,false] rfl rfl (aD bN.out aR) (fun _ _ _ h=>h) (Or.inr ⟨by rfl,rfl⟩) ?_ ?_
       rotate_left
       ·simp only [Act.put,List.setIfInBounds_toArray,List.set_cons_zero,List.set_cons_succ,fD,fJ]
        rfl
       refine mU (i:=9) (N:=some 26) (v:=undef) (a':=?_) #[true,true,true,true,true,true,true,true,true,true,false,false,false,false,false] rfl rfl (aD bN.out aR) (fun _ _ _ h=>h) (Or.inr ⟨by rfl,rfl⟩) ?_ ?_
       rotate_left
       ·simp only [Act.put,List.setIfInBounds_toArray,List.set_cons_zero,List.set_cons_succ,fD,fJ]
        rfl
       refine mU (i:=10) (N:=some 27) (v:=undef) (a':=?_) #[true,true,true,true,true,true,true,true,true,true,true,false,false,false,false] rfl rfl (aD bN.out aR) (fun _ _ _ h=>h) (Or.inr ⟨by rfl,rfl⟩) ?_ ?_
       rotate_left
       ·simp only [Act.put,List.setIfInBounds_toArray,List.set_cons_zero,List.set_cons_succ,fD,fJ]
        rfl
       refine mU (i:=11) (N:=some 28) (v:=undef) (a':=?_) #[true,true,true,true,true,true,true,true,true,true,true,true,false,false,false] rfl rfl (aD bN.out aR) (fun _ _ _ h=>h) (Or.inr ⟨by rfl,rfl⟩) ?_ ?_
       rotate_left
       ·simp only [Act.put,List.setIfInBounds_toArray,List.set_cons_zero,List.set_cons_succ,fD,fJ]
        rfl
       refine mU (i:=12) (N:=some 29) (v:=undef) (a':=?_) #[true,true,true,true,true,true,true,true,true,true,true,true,true,false,false] rfl rfl (aD bN.out aR) (fun _ _ _ h=>h) (Or.inr ⟨by rfl,rfl⟩) ?_ ?_
       rotate_left
       ·simp only [Act.put,List.setIfInBounds_toArray,List.set_cons_zero,List.set_cons_succ,fD,fJ]
        rfl
       refine mU (i:=13) (N:=some 30) (v:=undef) (a':=?_) #[true,true,true,true,true,true,true,true,true,true,true,true,true,true,false] rfl rfl (aD bN.out aR) (fun _ _ _ h=>h) (Or.inr ⟨by rfl,rfl⟩) ?_ ?_
       rotate_left
       ·simp only [Act.put,List.setIfInBounds_toArray,List.set_cons_zero,List.set_cons_succ,fD,fJ]
        rfl
       refine dJ (i:=14) (N:=some 31) (aD bN.out aR) ?_
       refine lC (kF bN.out aR) ?_
       try go_wp2
       go_roundg k1
       case measure=>have:=Mi.out;omega
       case rel=>exact ⟨(wrap64 (jc+1)),nI,H',⟨RF⟩,⟨iq⟩,⟨iq⟩,⟨iq⟩,⟨gM⟩⟩
     ·rw [if_neg c9] at H
      exact absurd H (by simp)
    ·rw [if_neg c8] at H
     exact absurd H (by simp)
   ·rw [if_neg c7] at H
    have WX:decide (jc < (wrap64 (aj*ak))) = false:=decide_eq_false c7
    clear c7
    obtain rfl:=Option.some.inj H
    have aGx:=EG.out
    have aGy:=EH.out
    have aqQ:=EI.out
    have aqR:=EJ.out
    obtain ⟨SI,SK,SL,SN,ZM,ZN,ZO,axX,axY,SQ,SS,SV,SX,ZP,ZQ,ZR,axZ,ax0⟩:=iI jV.out
    go_wp2
    go_ret
    exact ⟨lJ,gM⟩
end Go.Proofs.Ytmhaiihjfgfaoaa.Pr
end
