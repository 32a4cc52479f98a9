import Derived.Test.YtmhaiihjfgfaoaaGhGliderHolds3
import Derived.Test.YtmhaiihjfgfaoaaGhGliderHolds6
import Derived.Test.YtmhaiihjfgfaoaaGhGliderHolds7
import Derived.Test.YtmhaiihjfgfaoaaGhGliderHolds8
import Derived.Test.YtmhaiihjfgfaoaaGhGliderHolds15
section
namespace Go.Proofs.Ytmhaiihjfgfaoaa.Pr
open Go.RowKit Go.Proofs.YtmhaiihjfgfaoaaW.PrintWords Go.Proofs.YtmhaiihjfgfaoaaW.PrintLast Go.Proofs.YtmhaiihjfgfaoaaW.PrintMore
attribute [local go_sem] cz cB dK dL cK
set_option linter.unusedVariables false
set_option linter.unusedSimpArgs false
attribute [local go_sem high] akK
def bD.f (k:Nat):Option (Bool):=(bL.f k).bind fun jB=>((kg.f 2000 2000).bind fun yC=>((mR.f jB.1 jB.2.1 jB.2.2.1 jB.2.2.2.1 jB.2.2.2.2.1 jB.2.2.2.2.2.1 jB.2.2.2.2.2.2.1 jB.2.2.2.2.2.2.2.1 jB.2.2.2.2.2.2.2.2.1 jB.2.2.2.2.2.2.2.2.2.1 jB.2.2.2.2.2.2.2.2.2.2.1 jB.2.2.2.2.2.2.2.2.2.2.2.1 jB.2.2.2.2.2.2.2.2.2.2.2.2.1 jB.2.2.2.2.2.2.2.2.2.2.2.2.2.1 jB.2.2.2.2.2.2.2.2.2.2.2.2.2.2.1 jB.2.2.2.2.2.2.2.2.2.2.2.2.2.2.2 yC.1 yC.2.1 yC.2.2.1 yC.2.2.2 0 2 0).bind fun pz=>((ji.f k jB.2.2.2.2.2.2.2.2.2.1 jB.2.2.2.2.2.2.2.2.2.2.1 jB.2.2.2.2.2.2.2.2.2.2.2.1 jB.2.2.2.2.2.2.2.2.2.2.2.2.1 jB.2.2.2.2.2.2.2.2.2.2.2.2.2.1 jB.2.2.2.2.2.2.2.2.2.2.2.2.2.2.1 jB.2.2.2.2.2.2.2.2.2.2.2.2.2.2.2 300 310).bind fun yD=>(if (wrap64 (pz.2.2.2.2+yD.2)) = 0 then (if yD.1 = 3 then (some ((pz.1 == 2200 && (pz.2.1 == 2400)) && ((pz.2.2.1 == 2000 && (pz.2.2.2.1 == 2000))))) else (some false)) else (some false)))))
theorem bD.mono:∀ k,mq (bD.f k) (bD.f (k+1)):=by
 intro k
 unfold bD.f
 repeat' first
  |(with_reducible exact ji.mono _ _ _ _ _ _ _ _ _ _)
  |(with_reducible exact bL.mono _)
  |(with_reducible exact mq.refl _)
  |(with_reducible exact mq.none _)
  |(with_reducible refine mq.ite ?_ ?_)
  |(with_reducible refine mq.bind ?_ (fun _=>?_))
  |exact ji.mono _ _ _ _ _ _ _ _ _ _
  |exact bL.mono _
  |exact mq.none _
  |refine mq.ite ?_ ?_
  |refine mq.bind ?_ (fun _=>?_)
def bD.T2:Bool × List (List Nat × List Nat):=(true,[([],[]),([],[]),([],[]),([],[]),([0,1,2,3,2],[0,1,2,3]),([4],[4]),([5],[5]),([5],[5]),([],[]),([8,6,4,0,1,2,3,4,5,6,8],[6,8]),([7,9,0,1,2,3,4,5,6,7,8,9],[7])])
def bD.B2:List Nat:=[0,0,0,0,15,31,63,63,0,383,1023]
theorem bD.amL:oQ .any (opsOf Try.f19 2) = bD.T2:=by kernel_rfl
theorem bD.adR:lI bD.T2.2 bD.B2 = true:=by kernel_rfl
set_option maxRecDepth 100000 in
theorem bD.akL:bD.f 60 = some true:=by kernel_rfl
set_option maxHeartbeats 8000000 in
set_option maxRecDepth 100000 in
theorem bD.calls (k:Nat) (r:Bool) (w:World) (h:bD.f k = some r):
 Calls Try.prog 19 #[] w fun e w'=>e = .returned (.bool r)∧Below w.heap.size w w':=by
 have hr_:ae (r = true):=⟨Option.some.inj ((KJ bD.mono (Nat.le_max_left k 60) h).symm.trans (KJ bD.mono (Nat.le_max_right k 60) bD.akL))⟩
 have xE:=Try.underlying25
 have BL:=Try.underlying29
 have Rs:=Try.underlying33
 have qP:=Try.underlying31
 have pK:=Try.underlying27
 have HB:=ae.mk (Below.refl w.heap.size w)
 have H:((bL.f k).bind fun jB=>((kg.f 2000 2000).bind fun yC=>((mR.f jB.1 jB.2.1 jB.2.2.1 jB.2.2.2.1 jB.2.2.2.2.1 jB.2.2.2.2.2.1 jB.2.2.2.2.2.2.1 jB.2.2.2.2.2.2.2.1 jB.2.2.2.2.2.2.2.2.1 jB.2.2.2.2.2.2.2.2.2.1 jB.2.2.2.2.2.2.2.2.2.2.1 jB.2.2.2.2.2.2.2.2.2.2.2.1 jB.2.2.2.2.2.2.2.2.2.2.2.2.1 jB.2.2.2.2.2.2.2.2.2.2.2.2.2.1 jB.2.2.2.2.2.2.2.2.2.2.2.2.2.2.1 jB.2.2.2.2.2.2.2.2.2.2.2.2.2.2.2 yC.1 yC.2.1 yC.2.2.1 yC.2.2.2 0 2 0).bind fun pz=>((ji.f k jB.2.2.2.2.2.2.2.2.2.1 jB.2.2.2.2.2.2.2.2.2.2.1 jB.2.2.2.2.2.2.2.2.2.2.2.1 jB.2.2.2.2.2.2.2.2.2.2.2.2.1 jB.2.2.2.2.2.2.2.2.2.2.2.2.2.1 jB.2.2.2.2.2.2.2.2.2.2.2.2.2.2.1 jB.2.2.2.2.2.2.2.2.2.2.2.2.2.2.2 300 310).bind fun yD=>(if (wrap64 (pz.2.2.2.2+yD.2)) = 0 then (if yD.1 = 3 then (some ((pz.1 == 2200 && (pz.2.1 == 2400)) && ((pz.2.2.1 == 2000 && (pz.2.2.2.1 == 2000))))) else (some false)) else (some false)))))) = some r:=h
 clear h
 replace H:=Option.bind_eq_some_iff.mp H
 obtain ⟨⟨qQ,rD,rX,um,uA,vI,vS,rE,rY,pV,qo,qz,qR,rF,rZ,uo⟩,W9,H⟩:=H
 replace H:((kg.f 2000 2000).bind fun yC=>((mR.f qQ rD rX um uA vI vS rE rY pV qo qz qR rF rZ uo yC.1 yC.2.1 yC.2.2.1 yC.2.2.2 0 2 0).bind fun pz=>((ji.f k pV qo qz qR rF rZ uo 300 310).bind fun yD=>(if (wrap64 (pz.2.2.2.2+yD.2)) = 0 then (if yD.1 = 3 then (some ((pz.1 == 2200 && (pz.2.1 == 2400)) && ((pz.2.2.1 == 2000 && (pz.2.2.2.1 == 2000))))) else (some false)) else (some false))))) = some r:=H
 have A1:=ae.mk W9
 clear W9
 replace H:=Option.bind_eq_some_iff.mp H
 obtain ⟨⟨PY,PZ,P5,P6⟩,Yu,H⟩:=H
 replace H:((mR.f qQ rD rX um uA vI vS rE rY pV qo qz qR rF rZ uo PY PZ P5 P6 0 2 0).bind fun pz=>((ji.f k pV qo qz qR rF rZ uo 300 310).bind fun yD=>(if (wrap64 (pz.2.2.2.2+yD.2)) = 0 then (if yD.1 = 3 then (some ((pz.1 == 2200 && (pz.2.1 == 2400)) && ((pz.2.2.1 == 2000 && (pz.2.2.2.1 == 2000))))) else (some false)) else (some false)))) = some r:=H
 have A2:=ae.mk Yu
 clear Yu
 replace H:=Option.bind_eq_some_iff.mp H
 obtain ⟨⟨IQ,KW,Ml,O4,KX⟩,QA,H⟩:=H
 replace H:((ji.f k pV qo qz qR rF rZ uo 300 310).bind fun yD=>(if (wrap64 (KX+yD.2)) = 0 then (if yD.1 = 3 then (some ((IQ == 2200 && (KW == 2400)) && ((Ml == 2000 && (O4 == 2000))))) else (some false)) else (some false))) = some r:=H
 have A3:=ae.mk QA
 clear QA
 replace H:=Option.bind_eq_some_iff.mp H
 obtain ⟨⟨Xa,Xb⟩,LX,H⟩:=H
 replace H:(if (wrap64 (KX+Xb)) = 0 then (if Xa = 3 then (some ((IQ == 2200 && (KW == 2400)) && ((Ml == 2000 && (O4 == 2000))))) else (some false)) else (some false)) = some r:=H
 have A4:=ae.mk LX
 clear LX
 by_cases c5:(wrap64 (KX+Xb)) = 0
 ·rw [if_pos c5] at H
  have Dc:((wrap64 (KX+Xb)) == 0) = true:=beq_iff_eq.mpr c5
  have abz:((wrap64 (KX+Xb)) != 0) = false:=bne_eq_false_iff_eq.mpr c5
  clear c5
  by_cases c6:Xa = 3
  ·rw [if_pos c6] at H
   have Dp:(Xa == 3) = true:=beq_iff_eq.mpr c6
   have aC8:(Xa != 3) = false:=bne_eq_false_iff_eq.mpr c6
   clear c6
   obtain rfl:=Option.some.inj H
   go_enter Try.func19,Try.ntmps19
   try go_wp2_with (first|((with_reducible refine aW (f:=61) rfl ?_);refine dM (some 8) rfl rfl Try.func61 aR rfl #[] rfl jJ ?_;(with_reducible refine (bL.calls k qQ rD rX um uA vI vS rE rY pV qo qz qR rF rZ uo _ A1.out).mono ?_);rintro e w7 ⟨aIO,aIP,rfl,ho0,ho1,hb⟩;refine ⟨_,rfl,?_⟩;have kI:=ae.mk (Kd.lH ho0 (iG gM));have kJ:=ae.mk (Kd.lH ho1 (iG gM));replace HB:=dF HB hb;(try clear hb);(try clear hb2);(try clear hk);(try clear hi);(try clear ho0);(try clear ho1))|((with_reducible refine aA (N:=1) rfl ?_);refine az (by rfl) (N:=1) (by rfl) (cs:=#[.int .i64 0,.int .i64 0,.int .i64 0,.int .i64 0,.int .i64 0,.int .i64 0,.int .i64 0,.slice none 0 0,.slice none 0 0]) (t:=25) gQ ?_;intro dZ hg w8 hbox hb;have jk:=ae.mk (hbox);have aEU:=dn HB hg;have aEV:=dn HB hg;replace kI:=xB kI hb;replace kJ:=xB kJ hb;replace HB:=dF HB hb;clear hb hbox hg)|((with_reducible refine aA (N:=2) rfl ?_);refine az (by rfl) (N:=2) (by rfl) (cs:=#[.int .i64 0,.int .i64 0,.int .i64 0,.int .i64 0,.int .i64 0,.int .i64 0,.int .i64 0]) (t:=29) gQ ?_;intro fq hg w9 hbox hb;have jG:=ae.mk (hbox);have aEW:=dn HB hg;have aEX:=dn HB hg;have qW:=iE jk hg;have oJ:=iF jk hg;replace kI:=xB kI hb;replace kJ:=xB kJ hb;replace jk:=bC jk hb;replace HB:=dF HB hb;clear hb hbox hg;have ac3:=qW.out;have ac4:=oJ.out;obtain ⟨yn,yo,BF,BG,IU,IV,IW,ME,MF,yt,yu,BH,BI,IX,IY,IZ,MG,MH⟩:=iI jk.out;obtain ⟨zT,zU,aC9⟩:=Kd.ma kI.out;subst aC9;obtain ⟨Ae,Af,aDa⟩:=Kd.ma kJ.out;subst aDa;obtain ⟨wm,wo,DR,DT,auG,auH,auI,wu,wy,DU,DV,auJ,auK,auL⟩:=ko jG.out))
   have BM:ae (Kd.R Kd.bool 4 ((((((((((((((((w9.setCell ⟨dZ,0,none⟩ (.int .i64 qQ)).setCell ⟨dZ,1,none⟩ (.int .i64 rD)).setCell ⟨dZ,2,none⟩ (.int .i64 rX)).setCell ⟨dZ,3,none⟩ (.int .i64 um)).setCell ⟨dZ,4,none⟩ (.int .i64 uA)).setCell ⟨dZ,5,none⟩ (.int .i64 vI)).setCell ⟨dZ,6,none⟩ (.int .i64 vS)).setCell ⟨dZ,7,none⟩ (.slice zT rE.length zU)).setCell ⟨dZ,8,none⟩ (.slice Ae rY.length Af)).setCell ⟨fq,0,none⟩ (.int .i64 pV)).setCell ⟨fq,1,none⟩ (.int .i64 qo)).setCell ⟨fq,2,none⟩ (.int .i64 qz)).setCell ⟨fq,3,none⟩ (.int .i64 qR)).setCell ⟨fq,4,none⟩ (.int .i64 rF)).setCell ⟨fq,5,none⟩ (.int .i64 rZ)).setCell ⟨fq,6,none⟩ (.int .i64 uo)) w.heap.size (fun _=>True) (.slice zT rE.length zU) rE):=⟨by (with_reducible repeat (first|apply Kd.kK|apply Kd.kv|apply Kd.jo));exact Kd.lv (Kd.eG (p:=⟨fq,6,none⟩) (Kd.eG (p:=⟨fq,5,none⟩) (Kd.eG (p:=⟨fq,4,none⟩) (Kd.eG (p:=⟨fq,3,none⟩) (Kd.eG (p:=⟨fq,2,none⟩) (Kd.eG (p:=⟨fq,1,none⟩) (Kd.eG (p:=⟨fq,0,none⟩) (Kd.eG (p:=⟨dZ,8,none⟩) (Kd.eG (p:=⟨dZ,7,none⟩) (Kd.eG (p:=⟨dZ,6,none⟩) (Kd.eG (p:=⟨dZ,5,none⟩) (Kd.eG (p:=⟨dZ,4,none⟩) (Kd.eG (p:=⟨dZ,3,none⟩) (Kd.eG (p:=⟨dZ,2,none⟩) (Kd.eG (p:=⟨dZ,1,none⟩) (Kd.eG (p:=⟨dZ,0,none⟩) (Kd.oZ (Kd.oZ kI.out jk.out (by decide)) jG.out (by decide)) (fun _ hk=>hk.1.2) (.int .i64 qQ)) (fun _ hk=>hk.1.2) (.int .i64 rD)) (fun _ hk=>hk.1.2) (.int .i64 rX)) (fun _ hk=>hk.1.2) (.int .i64 um)) (fun _ hk=>hk.1.2) (.int .i64 uA)) (fun _ hk=>hk.1.2) (.int .i64 vI)) (fun _ hk=>hk.1.2) (.int .i64 vS)) (fun _ hk=>hk.1.2) (.slice zT rE.length zU)) (fun _ hk=>hk.1.2) (.slice Ae rY.length Af)) (fun _ hk=>hk.2) (.int .i64 pV)) (fun _ hk=>hk.2) (.int .i64 qo)) (fun _ hk=>hk.2) (.int .i64 qz)) (fun _ hk=>hk.2) (.int .i64 qR)) (fun _ hk=>hk.2) (.int .i64 rF)) (fun _ hk=>hk.2) (.int .i64 rZ)) (fun _ hk=>hk.2) (.int .i64 uo)) (fun _ hk=>trivial)⟩
   have BN:ae (Kd.R CY 40 ((((((((((((((((w9.setCell ⟨dZ,0,none⟩ (.int .i64 qQ)).setCell ⟨dZ,1,none⟩ (.int .i64 rD)).setCell ⟨dZ,2,none⟩ (.int .i64 rX)).setCell ⟨dZ,3,none⟩ (.int .i64 um)).setCell ⟨dZ,4,none⟩ (.int .i64 uA)).setCell ⟨dZ,5,none⟩ (.int .i64 vI)).setCell ⟨dZ,6,none⟩ (.int .i64 vS)).setCell ⟨dZ,7,none⟩ (.slice zT rE.length zU)).setCell ⟨dZ,8,none⟩ (.slice Ae rY.length Af)).setCell ⟨fq,0,none⟩ (.int .i64 pV)).setCell ⟨fq,1,none⟩ (.int .i64 qo)).setCell ⟨fq,2,none⟩ (.int .i64 qz)).setCell ⟨fq,3,none⟩ (.int .i64 qR)).setCell ⟨fq,4,none⟩ (.int .i64 rF)).setCell ⟨fq,5,none⟩ (.int .i64 rZ)).setCell ⟨fq,6,none⟩ (.int .i64 uo)) w.heap.size (fun _=>True) (.slice Ae rY.length Af) rY):=⟨by (with_reducible repeat (first|apply Kd.kK|apply Kd.kv|apply Kd.jo));exact Kd.lv (Kd.eG (p:=⟨fq,6,none⟩) (Kd.eG (p:=⟨fq,5,none⟩) (Kd.eG (p:=⟨fq,4,none⟩) (Kd.eG (p:=⟨fq,3,none⟩) (Kd.eG (p:=⟨fq,2,none⟩) (Kd.eG (p:=⟨fq,1,none⟩) (Kd.eG (p:=⟨fq,0,none⟩) (Kd.eG (p:=⟨dZ,8,none⟩) (Kd.eG (p:=⟨dZ,7,none⟩) (Kd.eG (p:=⟨dZ,6,none⟩) (Kd.eG (p:=⟨dZ,5,none⟩) (Kd.eG (p:=⟨dZ,4,none⟩) (Kd.eG (p:=⟨dZ,3,none⟩) (Kd.eG (p:=⟨dZ,2,none⟩) (Kd.eG (p:=⟨dZ,1,none⟩) (Kd.eG (p:=⟨dZ,0,none⟩) (Kd.oZ (Kd.oZ kJ.out jk.out (by decide)) jG.out (by decide)) (fun _ hk=>hk.1.2) (.int .i64 qQ)) (fun _ hk=>hk.1.2) (.int .i64 rD)) (fun _ hk=>hk.1.2) (.int .i64 rX)) (fun _ hk=>hk.1.2) (.int .i64 um)) (fun _ hk=>hk.1.2) (.int .i64 uA)) (fun _ hk=>hk.1.2) (.int .i64 vI)) (fun _ hk=>hk.1.2) (.int .i64 vS)) (fun _ hk=>hk.1.2) (.slice zT rE.length zU)) (fun _ hk=>hk.1.2) (.slice Ae rY.length Af)) (fun _ hk=>hk.2) (.int .i64 pV)) (fun _ hk=>hk.2) (.int .i64 qo)) (fun _ hk=>hk.2) (.int .i64 qz)) (fun _ hk=>hk.2) (.int .i64 qR)) (fun _ hk=>hk.2) (.int .i64 rF)) (fun _ hk=>hk.2) (.int .i64 rZ)) (fun _ hk=>hk.2) (.int .i64 uo)) (fun _ hk=>trivial)⟩
   have BO:ae (((((((((((((((((w9.setCell ⟨dZ,0,none⟩ (.int .i64 qQ)).setCell ⟨dZ,1,none⟩ (.int .i64 rD)).setCell ⟨dZ,2,none⟩ (.int .i64 rX)).setCell ⟨dZ,3,none⟩ (.int .i64 um)).setCell ⟨dZ,4,none⟩ (.int .i64 uA)).setCell ⟨dZ,5,none⟩ (.int .i64 vI)).setCell ⟨dZ,6,none⟩ (.int .i64 vS)).setCell ⟨dZ,7,none⟩ (.slice zT rE.length zU)).setCell ⟨dZ,8,none⟩ (.slice Ae rY.length Af)).setCell ⟨fq,0,none⟩ (.int .i64 pV)).setCell ⟨fq,1,none⟩ (.int .i64 qo)).setCell ⟨fq,2,none⟩ (.int .i64 qz)).setCell ⟨fq,3,none⟩ (.int .i64 qR)).setCell ⟨fq,4,none⟩ (.int .i64 rF)).setCell ⟨fq,5,none⟩ (.int .i64 rZ)).setCell ⟨fq,6,none⟩ (.int .i64 uo)).heap[dZ]? = some (.cells #[.int .i64 qQ,.int .i64 rD,.int .i64 rX,.int .i64 um,.int .i64 uA,.int .i64 vI,.int .i64 vS,.slice zT rE.length zU,.slice Ae rY.length Af] 25 (0,0))):=⟨by (with_reducible repeat (first|refine au ?_ _|refine ah ?_|refine ag ?_ _));refine aM ?_ qW.out _;(with_reducible repeat (first|refine au ?_ _|refine ah ?_|refine ag ?_ _));refine aM ?_ qW.out _;(with_reducible repeat (first|refine au ?_ _|refine ah ?_|refine ag ?_ _));refine aM ?_ qW.out _;(with_reducible repeat (first|refine au ?_ _|refine ah ?_|refine ag ?_ _));refine aM ?_ qW.out _;(with_reducible repeat (first|refine au ?_ _|refine ah ?_|refine ag ?_ _));refine aM ?_ qW.out _;(with_reducible repeat (first|refine au ?_ _|refine ah ?_|refine ag ?_ _));refine aM ?_ qW.out _;(with_reducible repeat (first|refine au ?_ _|refine ah ?_|refine ag ?_ _));refine aM ?_ qW.out _;(with_reducible repeat (first|refine au ?_ _|refine ah ?_|refine ag ?_ _));refine aI (cs:=#[.int .i64 qQ,.int .i64 rD,.int .i64 rX,.int .i64 um,.int .i64 uA,.int .i64 vI,.int .i64 vS,.slice zT rE.length zU,.slice none 0 0]) ?_ 8 _ rfl;(with_reducible repeat (first|refine au ?_ _|refine ah ?_|refine ag ?_ _));refine aI (cs:=#[.int .i64 qQ,.int .i64 rD,.int .i64 rX,.int .i64 um,.int .i64 uA,.int .i64 vI,.int .i64 vS,.slice none 0 0,.slice none 0 0]) ?_ 7 _ rfl;(with_reducible repeat (first|refine au ?_ _|refine ah ?_|refine ag ?_ _));refine aI (cs:=#[.int .i64 qQ,.int .i64 rD,.int .i64 rX,.int .i64 um,.int .i64 uA,.int .i64 vI,.int .i64 0,.slice none 0 0,.slice none 0 0]) ?_ 6 _ rfl;(with_reducible repeat (first|refine au ?_ _|refine ah ?_|refine ag ?_ _));refine aI (cs:=#[.int .i64 qQ,.int .i64 rD,.int .i64 rX,.int .i64 um,.int .i64 uA,.int .i64 0,.int .i64 0,.slice none 0 0,.slice none 0 0]) ?_ 5 _ rfl;(with_reducible repeat (first|refine au ?_ _|refine ah ?_|refine ag ?_ _));refine aI (cs:=#[.int .i64 qQ,.int .i64 rD,.int .i64 rX,.int .i64 um,.int .i64 0,.int .i64 0,.int .i64 0,.slice none 0 0,.slice none 0 0]) ?_ 4 _ rfl;(with_reducible repeat (first|refine au ?_ _|refine ah ?_|refine ag ?_ _));refine aI (cs:=#[.int .i64 qQ,.int .i64 rD,.int .i64 rX,.int .i64 0,.int .i64 0,.int .i64 0,.int .i64 0,.slice none 0 0,.slice none 0 0]) ?_ 3 _ rfl;(with_reducible repeat (first|refine au ?_ _|refine ah ?_|refine ag ?_ _));refine aI (cs:=#[.int .i64 qQ,.int .i64 rD,.int .i64 0,.int .i64 0,.int .i64 0,.int .i64 0,.int .i64 0,.slice none 0 0,.slice none 0 0]) ?_ 2 _ rfl;(with_reducible repeat (first|refine au ?_ _|refine ah ?_|refine ag ?_ _));refine aI (cs:=#[.int .i64 qQ,.int .i64 0,.int .i64 0,.int .i64 0,.int .i64 0,.int .i64 0,.int .i64 0,.slice none 0 0,.slice none 0 0]) ?_ 1 _ rfl;(with_reducible repeat (first|refine au ?_ _|refine ah ?_|refine ag ?_ _));refine aI (cs:=#[.int .i64 0,.int .i64 0,.int .i64 0,.int .i64 0,.int .i64 0,.int .i64 0,.int .i64 0,.slice none 0 0,.slice none 0 0]) ?_ 0 _ rfl;(with_reducible repeat (first|refine au ?_ _|refine ah ?_|refine ag ?_ _));exact jk.out⟩
   have BP:ae (((((((((((((((((w9.setCell ⟨dZ,0,none⟩ (.int .i64 qQ)).setCell ⟨dZ,1,none⟩ (.int .i64 rD)).setCell ⟨dZ,2,none⟩ (.int .i64 rX)).setCell ⟨dZ,3,none⟩ (.int .i64 um)).setCell ⟨dZ,4,none⟩ (.int .i64 uA)).setCell ⟨dZ,5,none⟩ (.int .i64 vI)).setCell ⟨dZ,6,none⟩ (.int .i64 vS)).setCell ⟨dZ,7,none⟩ (.slice zT rE.length zU)).setCell ⟨dZ,8,none⟩ (.slice Ae rY.length Af)).setCell ⟨fq,0,none⟩ (.int .i64 pV)).setCell ⟨fq,1,none⟩ (.int .i64 qo)).setCell ⟨fq,2,none⟩ (.int .i64 qz)).setCell ⟨fq,3,none⟩ (.int .i64 qR)).setCell ⟨fq,4,none⟩ (.int .i64 rF)).setCell ⟨fq,5,none⟩ (.int .i64 rZ)).setCell ⟨fq,6,none⟩ (.int .i64 uo)).heap[fq]? = some (.cells #[.int .i64 pV,.int .i64 qo,.int .i64 qz,.int .i64 qR,.int .i64 rF,.int .i64 rZ,.int .i64 uo] 29 (0,0))):=⟨by (with_reducible repeat (first|refine au ?_ _|refine ah ?_|refine ag ?_ _));refine aI (cs:=#[.int .i64 pV,.int .i64 qo,.int .i64 qz,.int .i64 qR,.int .i64 rF,.int .i64 rZ,.int .i64 0]) ?_ 6 _ rfl;(with_reducible repeat (first|refine au ?_ _|refine ah ?_|refine ag ?_ _));refine aI (cs:=#[.int .i64 pV,.int .i64 qo,.int .i64 qz,.int .i64 qR,.int .i64 rF,.int .i64 0,.int .i64 0]) ?_ 5 _ rfl;(with_reducible repeat (first|refine au ?_ _|refine ah ?_|refine ag ?_ _));refine aI (cs:=#[.int .i64 pV,.int .i64 qo,.int .i64 qz,.int .i64 qR,.int .i64 0,.int .i64 0,.int .i64 0]) ?_ 4 _ rfl;(with_reducible repeat (first|refine au ?_ _|refine ah ?_|refine ag ?_ _));refine aI (cs:=#[.int .i64 pV,.int .i64 qo,.int .i64 qz,.int .i64 0,.int .i64 0,.int .i64 0,.int .i64 0]) ?_ 3 _ rfl;(with_reducible repeat (first|refine au ?_ _|refine ah ?_|refine ag ?_ _));refine aI (cs:=#[.int .i64 pV,.int .i64 qo,.int .i64 0,.int .i64 0,.int .i64 0,.int .i64 0,.int .i64 0]) ?_ 2 _ rfl;(with_reducible repeat (first|refine au ?_ _|refine ah ?_|refine ag ?_ _));refine aI (cs:=#[.int .i64 pV,.int .i64 0,.int .i64 0,.int .i64 0,.int .i64 0,.int .i64 0,.int .i64 0]) ?_ 1 _ rfl;(with_reducible repeat (first|refine au ?_ _|refine ah ?_|refine ag ?_ _));refine aI (cs:=#[.int .i64 0,.int .i64 0,.int .i64 0,.int .i64 0,.int .i64 0,.int .i64 0,.int .i64 0]) ?_ 0 _ rfl;(with_reducible repeat (first|refine au ?_ _|refine ah ?_|refine ag ?_ _));refine aM ?_ oJ.out _;(with_reducible repeat (first|refine au ?_ _|refine ah ?_|refine ag ?_ _));refine aM ?_ oJ.out _;(with_reducible repeat (first|refine au ?_ _|refine ah ?_|refine ag ?_ _));refine aM ?_ oJ.out _;(with_reducible repeat (first|refine au ?_ _|refine ah ?_|refine ag ?_ _));refine aM ?_ oJ.out _;(with_reducible repeat (first|refine au ?_ _|refine ah ?_|refine ag ?_ _));refine aM ?_ oJ.out _;(with_reducible repeat (first|refine au ?_ _|refine ah ?_|refine ag ?_ _));refine aM ?_ oJ.out _;(with_reducible repeat (first|refine au ?_ _|refine ah ?_|refine ag ?_ _));refine aM ?_ oJ.out _;(with_reducible repeat (first|refine au ?_ _|refine ah ?_|refine ag ?_ _));refine aM ?_ oJ.out _;(with_reducible repeat (first|refine au ?_ _|refine ah ?_|refine ag ?_ _));refine aM ?_ oJ.out _;(with_reducible repeat (first|refine au ?_ _|refine ah ?_|refine ag ?_ _));exact jG.out⟩
   have BQ:ae (Below w.heap.size w ((((((((((((((((w9.setCell ⟨dZ,0,none⟩ (.int .i64 qQ)).setCell ⟨dZ,1,none⟩ (.int .i64 rD)).setCell ⟨dZ,2,none⟩ (.int .i64 rX)).setCell ⟨dZ,3,none⟩ (.int .i64 um)).setCell ⟨dZ,4,none⟩ (.int .i64 uA)).setCell ⟨dZ,5,none⟩ (.int .i64 vI)).setCell ⟨dZ,6,none⟩ (.int .i64 vS)).setCell ⟨dZ,7,none⟩ (.slice zT rE.length zU)).setCell ⟨dZ,8,none⟩ (.slice Ae rY.length Af)).setCell ⟨fq,0,none⟩ (.int .i64 pV)).setCell ⟨fq,1,none⟩ (.int .i64 qo)).setCell ⟨fq,2,none⟩ (.int .i64 qz)).setCell ⟨fq,3,none⟩ (.int .i64 qR)).setCell ⟨fq,4,none⟩ (.int .i64 rF)).setCell ⟨fq,5,none⟩ (.int .i64 rZ)).setCell ⟨fq,6,none⟩ (.int .i64 uo))):=⟨gM⟩
   (try clear kI)
   (try clear kJ)
   (try clear jk)
   (try clear jG)
   (try clear HB)
   generalize ((((((((((((((((w9.setCell ⟨dZ,0,none⟩ (.int .i64 qQ)).setCell ⟨dZ,1,none⟩ (.int .i64 rD)).setCell ⟨dZ,2,none⟩ (.int .i64 rX)).setCell ⟨dZ,3,none⟩ (.int .i64 um)).setCell ⟨dZ,4,none⟩ (.int .i64 uA)).setCell ⟨dZ,5,none⟩ (.int .i64 vI)).setCell ⟨dZ,6,none⟩ (.int .i64 vS)).setCell ⟨dZ,7,none⟩ (.slice zT rE.length zU)).setCell ⟨dZ,8,none⟩ (.slice Ae rY.length Af)).setCell ⟨fq,0,none⟩ (.int .i64 pV)).setCell ⟨fq,1,none⟩ (.int .i64 qo)).setCell ⟨fq,2,none⟩ (.int .i64 qz)).setCell ⟨fq,3,none⟩ (.int .i64 qR)).setCell ⟨fq,4,none⟩ (.int .i64 rF)).setCell ⟨fq,5,none⟩ (.int .i64 rZ)).setCell ⟨fq,6,none⟩ (.int .i64 uo)) = WW at BM BN BO BP BQ ⊢
   have kI:=BM
   have kJ:=BN
   have jk:=BO
   have jG:=BP
   have HB:=BQ
   clear BM BN BO BP BQ
   replace kI:=ae.mk (Kd.jo kI.out)
   replace kJ:=ae.mk (Kd.jo kJ.out)
   replace jk:=ae.mk (ah jk.out)
   replace jG:=ae.mk (ah jG.out)
   replace HB:=ae.mk (bW HB.out)
   refine jI (n:=11) (S:=fun w'=>w'.cell? ⟨dZ,0,none⟩ = some (.int .i64 qQ)∧w'.cell? ⟨dZ,1,none⟩ = some (.int .i64 rD)∧w'.cell? ⟨dZ,2,none⟩ = some (.int .i64 rX)∧w'.cell? ⟨dZ,3,none⟩ = some (.int .i64 um)∧w'.cell? ⟨dZ,4,none⟩ = some (.int .i64 uA)∧w'.cell? ⟨dZ,5,none⟩ = some (.int .i64 vI)∧w'.cell? ⟨dZ,6,none⟩ = some (.int .i64 vS)∧w'.cell? ⟨dZ,7,none⟩ = some (.slice zT rE.length zU)∧w'.cell? ⟨dZ,8,none⟩ = some (.slice Ae rY.length Af)∧w'.cell? ⟨fq,0,none⟩ = some (.int .i64 pV)∧w'.cell? ⟨fq,1,none⟩ = some (.int .i64 qo)∧w'.cell? ⟨fq,2,none⟩ = some (.int .i64 qz)∧w'.cell? ⟨fq,3,none⟩ = some (.int .i64 qR)∧w'.cell? ⟨fq,4,none⟩ = some (.int .i64 rF)∧w'.cell? ⟨fq,5,none⟩ = some (.int .i64 rZ)∧w'.cell? ⟨fq,6,none⟩ = some (.int .i64 uo)) (ds:=[]) #[false,false,false,false,false,false,false,false,false,false,false] aR rfl rfl (uq jk.out (Mk jG.out)) (fun hHeld=>?_);refine iM bD.amL bD.adR (fun bN jX=>?_)
   generalize WW.drew = w16 at kI kJ jk jG HB hHeld ⊢
   refine dJ (i:=3) (N:=some 15) (aD bN.out aR) ?_
   refine ja (i:=0) (N:=some 12) (bq bN.out jX.out aR) hHeld ?_
   refine ja (i:=1) (N:=some 13) (bq bN.out jX.out aR) hHeld ?_
   refine Qx (σ:=Nat) 2 #[true,true,true,true,true,true,true,true,true,false,false] (fun s_=>[(14,.agg #[.int .i64 PY,.int .i64 PZ,.int .i64 P5,.int .i64 P6]),(16,.tuple #[.agg #[.int .i64 IQ,.int .i64 KW,.int .i64 Ml,.int .i64 O4],.int .i64 KX]),(3,.pointer (some ⟨s_,0,none⟩)),(11,.tuple #[.agg #[.int .i64 IQ,.int .i64 KW,.int .i64 Ml,.int .i64 O4],.int .i64 KX]),(17,.agg #[.int .i64 IQ,.int .i64 KW,.int .i64 Ml,.int .i64 O4]),(18,.int .i64 KX)]) (fun s_ w'=>(w'.cell? ⟨dZ,0,none⟩ = some (.int .i64 qQ)∧w'.cell? ⟨dZ,1,none⟩ = some (.int .i64 rD)∧w'.cell? ⟨dZ,2,none⟩ = some (.int .i64 rX)∧w'.cell? ⟨dZ,3,none⟩ = some (.int .i64 um)∧w'.cell? ⟨dZ,4,none⟩ = some (.int .i64 uA)∧w'.cell? ⟨dZ,5,none⟩ = some (.int .i64 vI)∧w'.cell? ⟨dZ,6,none⟩ = some (.int .i64 vS)∧w'.cell? ⟨dZ,7,none⟩ = some (.slice zT rE.length zU)∧w'.cell? ⟨dZ,8,none⟩ = some (.slice Ae rY.length Af)∧w'.cell? ⟨fq,0,none⟩ = some (.int .i64 pV)∧w'.cell? ⟨fq,1,none⟩ = some (.int .i64 qo)∧w'.cell? ⟨fq,2,none⟩ = some (.int .i64 qz)∧w'.cell? ⟨fq,3,none⟩ = some (.int .i64 qR)∧w'.cell? ⟨fq,4,none⟩ = some (.int .i64 rF)∧w'.cell? ⟨fq,5,none⟩ = some (.int .i64 rZ)∧w'.cell? ⟨fq,6,none⟩ = some (.int .i64 uo))∧(Kd.R Kd.bool 4 w' w.heap.size (fun _=>True) (.slice zT rE.length zU) rE)∧(Kd.R CY 40 w' w.heap.size (fun _=>True) (.slice Ae rY.length Af) rY)∧(w'.heap[dZ]? = some (.cells #[.int .i64 qQ,.int .i64 rD,.int .i64 rX,.int .i64 um,.int .i64 uA,.int .i64 vI,.int .i64 vS,.slice zT rE.length zU,.slice Ae rY.length Af] 25 (0,0)))∧(w'.heap[fq]? = some (.cells #[.int .i64 pV,.int .i64 qo,.int .i64 qz,.int .i64 qR,.int .i64 rF,.int .i64 rZ,.int .i64 uo] 29 (0,0)))∧(w'.heap[s_]? = some (.cells #[.int .i64 0,.int .i64 0,.int .i64 0,.int .i64 0] 31 (0,0)))∧(w.heap.size≤s_)∧(w.heap.size≤s_)∧(dZ≠s_)∧(s_≠dZ)∧(fq≠s_)∧(s_≠fq)∧(Below w.heap.size w w')) ?_ ?_
   rotate_left
   ·intro hCont
    refine UL (i:=2) (j:=8) (Ni:=some 14) (Nj:=some 3) #[true,true,true,true,false,false,false,false,false,false,false] #[true,true,false,true,false,false,false,false,true,false,false] rfl rfl rfl rfl (KY bN.out aR) (by decide) (by decide) (fun K hK=>?_) (fun K hK=>?_)
    ·skip
     refine gV Try.func62 aR rfl #[.int .i64 2000,.int .i64 2000] (by rfl) rfl rfl jJ ?_
     with_reducible refine (kg.calls 2000 2000 PY PZ P5 P6 _ A2.out).mono ?_
     rintro e Ac ⟨rfl,hb⟩
     refine ⟨_,rfl,?_⟩
     replace kI:=xB kI hb
     replace kJ:=xB kJ hb
     replace jk:=bC jk hb
     replace jG:=bC jG hb
     replace HB:=dF HB hb
     (try clear hb)
     (try clear hb2)
     (try clear hk)
     (try clear hi)
     refine hK.out _ _ (uq jk.out (Mk jG.out)) (fun hHeld=>?_)
     clear hK K
     refine ek agq ?_
     refine UL (i:=4) (j:=8) (Ni:=some 16) (Nj:=some 3) #[true,true,true,true,true,false,false,false,false,false,false] #[true,true,true,true,false,false,false,false,true,false,false] rfl rfl rfl rfl (KY bN.out aR) (by decide) (by decide) (fun K hK=>?_) (fun K hK=>?_)
     ·skip
      refine gV Try.func20 aR rfl #[.agg #[.int .i64 qQ,.int .i64 rD,.int .i64 rX,.int .i64 um,.int .i64 uA,.int .i64 vI,.int .i64 vS,.slice zT rE.length zU,.slice Ae rY.length Af],.agg #[.int .i64 pV,.int .i64 qo,.int .i64 qz,.int .i64 qR,.int .i64 rF,.int .i64 rZ,.int .i64 uo],.agg #[.int .i64 PY,.int .i64 PZ,.int .i64 P5,.int .i64 P6],.int .i64 0,.agg #[.int .i64 2,.int .i64 0]] (by rfl) rfl rfl jJ ?_
      with_reducible refine (mR.calls qQ rD rX um uA vI vS _ _ rE _ _ rY pV qo qz qR rF rZ uo PY PZ P5 P6 0 2 0 IQ KW Ml O4 KX _ ?dz ?dA ?dR ?dS A3.out).mono ?_
      (case dz=>repeat (first|exact (Kd.iL kI.out).2.2|(with_reducible refine Kd.bA ?_ _)|(with_reducible refine Kd.bB ?_ _)|(with_reducible refine Kd.bK ?_)))
      (case dA=>exact (Kd.iL kI.out).2.1)
      (case dR=>repeat (first|exact (Kd.iL kJ.out).2.2|(with_reducible refine Kd.bA ?_ _)|(with_reducible refine Kd.bB ?_ _)|(with_reducible refine Kd.bK ?_)))
      (case dS=>exact (Kd.iL kJ.out).2.1)
      rintro e w18 ⟨rfl,hb⟩
      refine ⟨_,rfl,?_⟩
      replace kI:=xB kI hb
      replace kJ:=xB kJ hb
      replace jk:=bC jk hb
      replace jG:=bC jG hb
      replace HB:=dF HB hb
      (try clear hb)
      (try clear hb2)
      (try clear hk)
      (try clear hi)
      refine hK.out _ _ (uq jk.out (Mk jG.out)) (fun hHeld=>?_)
      clear hK K
      refine ek abp ?_
      refine dJ (i:=5) (N:=some 11) (aD bN.out aR) ?_
      refine dJ (i:=6) (N:=some 17) (aD bN.out aR) ?_
      refine dJ (i:=7) (N:=some 18) (aD bN.out aR) ?_
      refine jq (i:=8) (N:=some 3) #[true,true,true,true,true,true,true,true,true,false,false] rfl rfl (fE bN.out aR) (by decide) (fun K hK=>?_)
      refine o8 ?hg (N:=3) ?hd (cs:=#[.int .i64 0,.int .i64 0,.int .i64 0,.int .i64 0]) (t:=31) ?hr ?_;(case hd=>rfl);(case hg=>rfl);(case hr=>first|(go_simp;done)|(go_simp;rfl))
      intro eY hg w19 hbox hb
      have pE:=ae.mk (hbox)
      have QC:=dn HB hg
      have QD:=dn HB hg
      have dU:=iE jk hg
      have nM:=iF jk hg
      have eX:=iE jG hg
      have nN:=iF jG hg
      replace kI:=xB kI hb
      replace kJ:=xB kJ hb
      replace jk:=bC jk hb
      replace jG:=bC jG hb
      replace HB:=dF HB hb
      clear hb hbox hg
      refine hK.out _ _ (uq jk.out (Mk jG.out)) (fun hHeld=>?_)
      clear hK K
      refine ek amM ?_
      exact ek P7 (hCont (eY) _ ⟨hHeld,amN,amO,iq,iq,iq,QC.out,QD.out,dU.out,nM.out,eX.out,nN.out,gM⟩)
     ·skip
      refine o8 ?hg (N:=3) ?hd (cs:=#[.int .i64 0,.int .i64 0,.int .i64 0,.int .i64 0]) (t:=31) ?hr ?_;(case hd=>rfl);(case hg=>rfl);(case hr=>first|(go_simp;done)|(go_simp;rfl))
      intro eY hg w18 hbox hb
      have pE:=ae.mk (hbox)
      have QC:=dn HB hg
      have QD:=dn HB hg
      have dU:=iE jk hg
      have nM:=iF jk hg
      have eX:=iE jG hg
      have nN:=iF jG hg
      replace kI:=xB kI hb
      replace kJ:=xB kJ hb
      replace jk:=bC jk hb
      replace jG:=bC jG hb
      replace HB:=dF HB hb
      clear hb hbox hg
      refine hK.out _ _ (uq jk.out (Mk jG.out)) (fun hHeld=>?_)
      clear hK K
      refine ek amM ?_
      refine jq (i:=4) (N:=some 16) #[true,true,true,true,true,false,false,false,true,false,false] rfl rfl (fE bN.out aR) (by decide) (fun K hK=>?_)
      refine gV Try.func20 aR rfl #[.agg #[.int .i64 qQ,.int .i64 rD,.int .i64 rX,.int .i64 um,.int .i64 uA,.int .i64 vI,.int .i64 vS,.slice zT rE.length zU,.slice Ae rY.length Af],.agg #[.int .i64 pV,.int .i64 qo,.int .i64 qz,.int .i64 qR,.int .i64 rF,.int .i64 rZ,.int .i64 uo],.agg #[.int .i64 PY,.int .i64 PZ,.int .i64 P5,.int .i64 P6],.int .i64 0,.agg #[.int .i64 2,.int .i64 0]] (by rfl) rfl rfl jJ ?_
      with_reducible refine (mR.calls qQ rD rX um uA vI vS _ _ rE _ _ rY pV qo qz qR rF rZ uo PY PZ P5 P6 0 2 0 IQ KW Ml O4 KX _ ?dz ?dA ?dR ?dS A3.out).mono ?_
      (case dz=>repeat (first|exact (Kd.iL kI.out).2.2|(with_reducible refine Kd.bA ?_ _)|(with_reducible refine Kd.bB ?_ _)|(with_reducible refine Kd.bK ?_)))
      (case dA=>exact (Kd.iL kI.out).2.1)
      (case dR=>repeat (first|exact (Kd.iL kJ.out).2.2|(with_reducible refine Kd.bA ?_ _)|(with_reducible refine Kd.bB ?_ _)|(with_reducible refine Kd.bK ?_)))
      (case dS=>exact (Kd.iL kJ.out).2.1)
      rintro e w19 ⟨rfl,hb⟩
      refine ⟨_,rfl,?_⟩
      replace kI:=xB kI hb
      replace kJ:=xB kJ hb
      replace jk:=bC jk hb
      replace jG:=bC jG hb
      replace pE:=bC pE hb
      replace HB:=dF HB hb
      (try clear hb)
      (try clear hb2)
      (try clear hk)
      (try clear hi)
      refine hK.out _ _ (uq jk.out (Mk jG.out)) (fun hHeld=>?_)
      clear hK K
      refine ek abp ?_
      refine dJ (i:=5) (N:=some 11) (aD bN.out aR) ?_
      refine dJ (i:=6) (N:=some 17) (aD bN.out aR) ?_
      refine dJ (i:=7) (N:=some 18) (aD bN.out aR) ?_
      exact ek P7 (hCont (eY) _ ⟨hHeld,amN,amO,iq,iq,iq,QC.out,QD.out,dU.out,nM.out,eX.out,nN.out,gM⟩)
    ·skip
     refine o8 ?hg (N:=3) ?hd (cs:=#[.int .i64 0,.int .i64 0,.int .i64 0,.int .i64 0]) (t:=31) ?hr ?_;(case hd=>rfl);(case hg=>rfl);(case hr=>first|(go_simp;done)|(go_simp;rfl))
     intro eY hg Ac hbox hb
     have pE:=ae.mk (hbox)
     have QC:=dn HB hg
     have QD:=dn HB hg
     have dU:=iE jk hg
     have nM:=iF jk hg
     have eX:=iE jG hg
     have nN:=iF jG hg
     replace kI:=xB kI hb
     replace kJ:=xB kJ hb
     replace jk:=bC jk hb
     replace jG:=bC jG hb
     replace HB:=dF HB hb
     clear hb hbox hg
     refine hK.out _ _ (uq jk.out (Mk jG.out)) (fun hHeld=>?_)
     clear hK K
     refine ek amM ?_
     refine jq (i:=2) (N:=some 14) #[true,true,true,true,false,false,false,false,true,false,false] rfl rfl (fE bN.out aR) (by decide) (fun K hK=>?_)
     refine gV Try.func62 aR rfl #[.int .i64 2000,.int .i64 2000] (by rfl) rfl rfl jJ ?_
     with_reducible refine (kg.calls 2000 2000 PY PZ P5 P6 _ A2.out).mono ?_
     rintro e w18 ⟨rfl,hb⟩
     refine ⟨_,rfl,?_⟩
     replace kI:=xB kI hb
     replace kJ:=xB kJ hb
     replace jk:=bC jk hb
     replace jG:=bC jG hb
     replace pE:=bC pE hb
     replace HB:=dF HB hb
     (try clear hb)
     (try clear hb2)
     (try clear hk)
     (try clear hi)
     refine hK.out _ _ (uq jk.out (Mk jG.out)) (fun hHeld=>?_)
     clear hK K
     refine ek agq ?_
     refine jq (i:=4) (N:=some 16) #[true,true,true,true,true,false,false,false,true,false,false] rfl rfl (fE bN.out aR) (by decide) (fun K hK=>?_)
     refine gV Try.func20 aR rfl #[.agg #[.int .i64 qQ,.int .i64 rD,.int .i64 rX,.int .i64 um,.int .i64 uA,.int .i64 vI,.int .i64 vS,.slice zT rE.length zU,.slice Ae rY.length Af],.agg #[.int .i64 pV,.int .i64 qo,.int .i64 qz,.int .i64 qR,.int .i64 rF,.int .i64 rZ,.int .i64 uo],.agg #[.int .i64 PY,.int .i64 PZ,.int .i64 P5,.int .i64 P6],.int .i64 0,.agg #[.int .i64 2,.int .i64 0]] (by rfl) rfl rfl jJ ?_
     with_reducible refine (mR.calls qQ rD rX um uA vI vS _ _ rE _ _ rY pV qo qz qR rF rZ uo PY PZ P5 P6 0 2 0 IQ KW Ml O4 KX _ ?dz ?dA ?dR ?dS A3.out).mono ?_
     (case dz=>repeat (first|exact (Kd.iL kI.out).2.2|(with_reducible refine Kd.bA ?_ _)|(with_reducible refine Kd.bB ?_ _)|(with_reducible refine Kd.bK ?_)))
     (case dA=>exact (Kd.iL kI.out).2.1)
     (case dR=>repeat (first|exact (Kd.iL kJ.out).2.2|(with_reducible refine Kd.bA ?_ _)|(with_reducible refine Kd.bB ?_ _)|(with_reducible refine Kd.bK ?_)))
     (case dS=>exact (Kd.iL kJ.out).2.1)
     rintro e w19 ⟨rfl,hb⟩
     refine ⟨_,rfl,?_⟩
     replace kI:=xB kI hb
     replace kJ:=xB kJ hb
     replace jk:=bC jk hb
     replace jG:=bC jG hb
     replace pE:=bC pE hb
     replace HB:=dF HB hb
     (try clear hb)
     (try clear hb2)
     (try clear hk)
     (try clear hi)
     refine hK.out _ _ (uq jk.out (Mk jG.out)) (fun hHeld=>?_)
     clear hK K
     refine ek abp ?_
     refine dJ (i:=5) (N:=some 11) (aD bN.out aR) ?_
     refine dJ (i:=6) (N:=some 17) (aD bN.out aR) ?_
     refine dJ (i:=7) (N:=some 18) (aD bN.out aR) ?_
     exact ek P7 (hCont (eY) _ ⟨hHeld,amN,amO,iq,iq,iq,QC.out,QD.out,dU.out,nM.out,eX.out,nN.out,gM⟩)
   rintro eY D7 ⟨hS_,h0_,h1_,h2_,h3_,h4_,h5_,h6_,h7_,h8_,h9_,O5,O6⟩
   have BM:ae (Kd.R Kd.bool 4 D7 w.heap.size (fun _=>True) (.slice zT rE.length zU) rE):=⟨h0_⟩
   have BN:ae (Kd.R CY 40 D7 w.heap.size (fun _=>True) (.slice Ae rY.length Af) rY):=⟨h1_⟩
   have BO:ae (D7.heap[dZ]? = some (.cells #[.int .i64 qQ,.int .i64 rD,.int .i64 rX,.int .i64 um,.int .i64 uA,.int .i64 vI,.int .i64 vS,.slice zT rE.length zU,.slice Ae rY.length Af] 25 (0,0))):=⟨h2_⟩
   have BP:ae (D7.heap[fq]? = some (.cells #[.int .i64 pV,.int .i64 qo,.int .i64 qz,.int .i64 qR,.int .i64 rF,.int .i64 rZ,.int .i64 uo] 29 (0,0))):=⟨h3_⟩
   have BQ:ae (D7.heap[eY]? = some (.cells #[.int .i64 0,.int .i64 0,.int .i64 0,.int .i64 0] 31 (0,0))):=⟨h4_⟩
   have GD:ae (w.heap.size≤eY):=⟨h5_⟩
   have RH:ae (w.heap.size≤eY):=⟨h6_⟩
   have n7_:ae (dZ≠eY):=⟨h7_⟩
   have n8_:ae (eY≠dZ):=⟨h8_⟩
   have n9_:ae (fq≠eY):=⟨h9_⟩
   have O7:ae (eY≠fq):=⟨O5⟩
   have O8:ae (Below w.heap.size w D7):=⟨O6⟩
   clear kI kJ jk jG HB
   clear h0_ h1_ h2_ h3_ h4_ h5_ h6_ h7_ h8_ h9_ O5 O6
   have kI:=BM
   have kJ:=BN
   have jk:=BO
   have jG:=BP
   have pE:=BQ
   have QC:=GD
   have QD:=RH
   have dU:=n7_
   have nM:=n8_
   have eX:=n9_
   have nN:=O7
   have HB:=O8
   clear BM BN BO BP BQ GD RH n7_ n8_ n9_ O7 O8
   have hHeld:D7.cell? ⟨dZ,0,none⟩ = some (.int .i64 qQ)∧D7.cell? ⟨dZ,1,none⟩ = some (.int .i64 rD)∧D7.cell? ⟨dZ,2,none⟩ = some (.int .i64 rX)∧D7.cell? ⟨dZ,3,none⟩ = some (.int .i64 um)∧D7.cell? ⟨dZ,4,none⟩ = some (.int .i64 uA)∧D7.cell? ⟨dZ,5,none⟩ = some (.int .i64 vI)∧D7.cell? ⟨dZ,6,none⟩ = some (.int .i64 vS)∧D7.cell? ⟨dZ,7,none⟩ = some (.slice zT rE.length zU)∧D7.cell? ⟨dZ,8,none⟩ = some (.slice Ae rY.length Af)∧D7.cell? ⟨fq,0,none⟩ = some (.int .i64 pV)∧D7.cell? ⟨fq,1,none⟩ = some (.int .i64 qo)∧D7.cell? ⟨fq,2,none⟩ = some (.int .i64 qz)∧D7.cell? ⟨fq,3,none⟩ = some (.int .i64 qR)∧D7.cell? ⟨fq,4,none⟩ = some (.int .i64 rF)∧D7.cell? ⟨fq,5,none⟩ = some (.int .i64 rZ)∧D7.cell? ⟨fq,6,none⟩ = some (.int .i64 uo):=hS_
   refine ek (a':=?_) ?_ ?_
   rotate_left
   ·simp only [vQ,Act.put,List.setIfInBounds_toArray,List.set_cons_zero,List.set_cons_succ]
    rfl
   refine jq (i:=9) (N:=none) #[true,true,true,true,true,true,true,true,true,true,false] rfl rfl (fE bN.out aR) (by decide) (fun K hK=>?_)
   have aDb:D7.cell? ⟨eY,0,none⟩ = some (.int .i64 0):=(aa pE.out 0).trans rfl
   have apo:=aX pE.out 0
   have agr:=dU.out
   have ags:=eX.out
   have agt:=nM.out
   have agu:=nN.out
   have aIQ:D7.cell? ⟨eY,1,none⟩ = some (.int .i64 0):=(aa pE.out 1).trans rfl
   have aEY:=aX pE.out 1
   have auM:=dU.out
   have auN:=eX.out
   have auO:=nM.out
   have auP:=nN.out
   have aIR:D7.cell? ⟨eY,2,none⟩ = some (.int .i64 0):=(aa pE.out 2).trans rfl
   have aEZ:=aX pE.out 2
   have auQ:=dU.out
   have auR:=eX.out
   have auS:=nM.out
   have auT:=nN.out
   have aIS:D7.cell? ⟨eY,3,none⟩ = some (.int .i64 0):=(aa pE.out 3).trans rfl
   have aE0:=aX pE.out 3
   have auU:=dU.out
   have auV:=eX.out
   have auW:=nM.out
   have auX:=nN.out
   refine yc (w1:=?_) (by rfl) rfl ?_ ?_
   rotate_left
   ·go_simp
    rfl
   refine hK.out _ _ ⟨((cell_far (p:=⟨eY,_,none⟩) dU.out _).trans (((cell_far (p:=⟨eY,_,none⟩) dU.out _).trans (((cell_far (p:=⟨eY,_,none⟩) dU.out _).trans (((cell_far (p:=⟨eY,_,none⟩) dU.out _).trans (hHeld.1)))))))),((cell_far (p:=⟨eY,_,none⟩) dU.out _).trans (((cell_far (p:=⟨eY,_,none⟩) dU.out _).trans (((cell_far (p:=⟨eY,_,none⟩) dU.out _).trans (((cell_far (p:=⟨eY,_,none⟩) dU.out _).trans (hHeld.2.1)))))))),((cell_far (p:=⟨eY,_,none⟩) dU.out _).trans (((cell_far (p:=⟨eY,_,none⟩) dU.out _).trans (((cell_far (p:=⟨eY,_,none⟩) dU.out _).trans (((cell_far (p:=⟨eY,_,none⟩) dU.out _).trans (hHeld.2.2.1)))))))),((cell_far (p:=⟨eY,_,none⟩) dU.out _).trans (((cell_far (p:=⟨eY,_,none⟩) dU.out _).trans (((cell_far (p:=⟨eY,_,none⟩) dU.out _).trans (((cell_far (p:=⟨eY,_,none⟩) dU.out _).trans (hHeld.2.2.2.1)))))))),((cell_far (p:=⟨eY,_,none⟩) dU.out _).trans (((cell_far (p:=⟨eY,_,none⟩) dU.out _).trans (((cell_far (p:=⟨eY,_,none⟩) dU.out _).trans (((cell_far (p:=⟨eY,_,none⟩) dU.out _).trans (hHeld.2.2.2.2.1)))))))),((cell_far (p:=⟨eY,_,none⟩) dU.out _).trans (((cell_far (p:=⟨eY,_,none⟩) dU.out _).trans (((cell_far (p:=⟨eY,_,none⟩) dU.out _).trans (((cell_far (p:=⟨eY,_,none⟩) dU.out _).trans (hHeld.2.2.2.2.2.1)))))))),((cell_far (p:=⟨eY,_,none⟩) dU.out _).trans (((cell_far (p:=⟨eY,_,none⟩) dU.out _).trans (((cell_far (p:=⟨eY,_,none⟩) dU.out _).trans (((cell_far (p:=⟨eY,_,none⟩) dU.out _).trans (hHeld.2.2.2.2.2.2.1)))))))),((cell_far (p:=⟨eY,_,none⟩) dU.out _).trans (((cell_far (p:=⟨eY,_,none⟩) dU.out _).trans (((cell_far (p:=⟨eY,_,none⟩) dU.out _).trans (((cell_far (p:=⟨eY,_,none⟩) dU.out _).trans (hHeld.2.2.2.2.2.2.2.1)))))))),((cell_far (p:=⟨eY,_,none⟩) dU.out _).trans (((cell_far (p:=⟨eY,_,none⟩) dU.out _).trans (((cell_far (p:=⟨eY,_,none⟩) dU.out _).trans (((cell_far (p:=⟨eY,_,none⟩) dU.out _).trans (hHeld.2.2.2.2.2.2.2.2.1)))))))),((cell_far (p:=⟨eY,_,none⟩) eX.out _).trans (((cell_far (p:=⟨eY,_,none⟩) eX.out _).trans (((cell_far (p:=⟨eY,_,none⟩) eX.out _).trans (((cell_far (p:=⟨eY,_,none⟩) eX.out _).trans (hHeld.2.2.2.2.2.2.2.2.2.1)))))))),((cell_far (p:=⟨eY,_,none⟩) eX.out _).trans (((cell_far (p:=⟨eY,_,none⟩) eX.out _).trans (((cell_far (p:=⟨eY,_,none⟩) eX.out _).trans (((cell_far (p:=⟨eY,_,none⟩) eX.out _).trans (hHeld.2.2.2.2.2.2.2.2.2.2.1)))))))),((cell_far (p:=⟨eY,_,none⟩) eX.out _).trans (((cell_far (p:=⟨eY,_,none⟩) eX.out _).trans (((cell_far (p:=⟨eY,_,none⟩) eX.out _).trans (((cell_far (p:=⟨eY,_,none⟩) eX.out _).trans (hHeld.2.2.2.2.2.2.2.2.2.2.2.1)))))))),((cell_far (p:=⟨eY,_,none⟩) eX.out _).trans (((cell_far (p:=⟨eY,_,none⟩) eX.out _).trans (((cell_far (p:=⟨eY,_,none⟩) eX.out _).trans (((cell_far (p:=⟨eY,_,none⟩) eX.out _).trans (hHeld.2.2.2.2.2.2.2.2.2.2.2.2.1)))))))),((cell_far (p:=⟨eY,_,none⟩) eX.out _).trans (((cell_far (p:=⟨eY,_,none⟩) eX.out _).trans (((cell_far (p:=⟨eY,_,none⟩) eX.out _).trans (((cell_far (p:=⟨eY,_,none⟩) eX.out _).trans (hHeld.2.2.2.2.2.2.2.2.2.2.2.2.2.1)))))))),((cell_far (p:=⟨eY,_,none⟩) eX.out _).trans (((cell_far (p:=⟨eY,_,none⟩) eX.out _).trans (((cell_far (p:=⟨eY,_,none⟩) eX.out _).trans (((cell_far (p:=⟨eY,_,none⟩) eX.out _).trans (hHeld.2.2.2.2.2.2.2.2.2.2.2.2.2.2.1)))))))),((cell_far (p:=⟨eY,_,none⟩) eX.out _).trans (((cell_far (p:=⟨eY,_,none⟩) eX.out _).trans (((cell_far (p:=⟨eY,_,none⟩) eX.out _).trans (((cell_far (p:=⟨eY,_,none⟩) eX.out _).trans (hHeld.2.2.2.2.2.2.2.2.2.2.2.2.2.2.2))))))))⟩ (fun hHeld=>?_)
   clear hK K
   refine dJ (i:=10) (N:=some 4) (aD bN.out aR) ?_
   refine lC (kF bN.out aR) ?_
   have ad5:=eX.out
   have ad6:=nN.out
   obtain ⟨MI,MJ,RI,RJ,agv,agw,agx,MK,ML,RL,RN,agy,agz,agA⟩:=ko jG.out
   try go_wp2_with (((with_reducible refine aW (f:=37) rfl ?_);refine dM (some 22) rfl rfl Try.func37 aR rfl #[.agg #[.int .i64 pV,.int .i64 qo,.int .i64 qz,.int .i64 qR,.int .i64 rF,.int .i64 rZ,.int .i64 uo],.agg #[.int .i64 300,.int .i64 310]] rfl jJ ?_;(with_reducible refine (ji.calls k pV qo qz qR rF rZ uo 300 310 Xa Xb _ A4.out).mono ?_);rintro e w27 ⟨rfl,hb⟩;refine ⟨_,rfl,?_⟩;have BM:=ae.mk (Kd.pJ (by (with_reducible repeat (first|apply Kd.kK|apply Kd.kv|apply Kd.jo));exact (Kd.lv (Kd.eG (p:=⟨eY,3,none⟩) (Kd.eG (p:=⟨eY,2,none⟩) (Kd.eG (p:=⟨eY,1,none⟩) (Kd.eG (p:=⟨eY,0,none⟩) (Kd.oZ kI.out pE.out (by decide)) (fun _ hk=>hk.2) (.int .i64 IQ)) (fun _ hk=>hk.2) (.int .i64 KW)) (fun _ hk=>hk.2) (.int .i64 Ml)) (fun _ hk=>hk.2) (.int .i64 O4)) (fun _ h_=>h_.1))) hb);have BN:=ae.mk (Kd.pJ (by (with_reducible repeat (first|apply Kd.kK|apply Kd.kv|apply Kd.jo));exact (Kd.lv (Kd.eG (p:=⟨eY,3,none⟩) (Kd.eG (p:=⟨eY,2,none⟩) (Kd.eG (p:=⟨eY,1,none⟩) (Kd.eG (p:=⟨eY,0,none⟩) (Kd.oZ kJ.out pE.out (by decide)) (fun _ hk=>hk.2) (.int .i64 IQ)) (fun _ hk=>hk.2) (.int .i64 KW)) (fun _ hk=>hk.2) (.int .i64 Ml)) (fun _ hk=>hk.2) (.int .i64 O4)) (fun _ h_=>h_.1))) hb);have BO:=bC jk hb;have BP:=bC jG hb;have BQ:=ae.mk (aV (g:=eY) (o:=.cells #[.int .i64 IQ,.int .i64 KW,.int .i64 Ml,.int .i64 O4] 31 (0,0)) (by (with_reducible repeat (first|refine au ?_ _|refine ah ?_|refine ag ?_ _));refine aI (cs:=#[.int .i64 IQ,.int .i64 KW,.int .i64 Ml,.int .i64 0]) ?_ 3 _ rfl;(with_reducible repeat (first|refine au ?_ _|refine ah ?_|refine ag ?_ _));refine aI (cs:=#[.int .i64 IQ,.int .i64 KW,.int .i64 0,.int .i64 0]) ?_ 2 _ rfl;(with_reducible repeat (first|refine au ?_ _|refine ah ?_|refine ag ?_ _));refine aI (cs:=#[.int .i64 IQ,.int .i64 0,.int .i64 0,.int .i64 0]) ?_ 1 _ rfl;(with_reducible repeat (first|refine au ?_ _|refine ah ?_|refine ag ?_ _));refine aI (cs:=#[.int .i64 0,.int .i64 0,.int .i64 0,.int .i64 0]) ?_ 0 _ rfl;(with_reducible repeat (first|refine au ?_ _|refine ah ?_|refine ag ?_ _));exact pE.out) hb);have GD:=dF HB hb;clear kI;clear kJ;clear jk;clear jG;clear pE;clear HB;have kI:=BM;have kJ:=BN;have jk:=BO;have jG:=BP;have pE:=BQ;have HB:=GD;clear BM BN BO BP BQ GD;(try clear hb);(try clear hb2);(try clear hk);(try clear hi);have aE1:=nM.out;have aE2:=dU.out;obtain ⟨Ec,Ed,Ee,Ef,Eg,Eh,Ei,Ej⟩:=iC pE.out))
   go_ret
   exact ⟨lJ,gM⟩
  ·rw [if_neg c6] at H
   have Dp:(Xa == 3) = false:=beq_eq_false_iff_ne.mpr c6
   have aC8:(Xa != 3) = true:=bne_iff_ne.mpr c6
   have QE:=Option.some.inj H
   rw [hr_.out] at QE
   cases QE
 ·rw [if_neg c5] at H
  have Dc:((wrap64 (KX+Xb)) == 0) = false:=beq_eq_false_iff_ne.mpr c5
  have abz:((wrap64 (KX+Xb)) != 0) = true:=bne_iff_ne.mpr c5
  have QE:=Option.some.inj H
  rw [hr_.out] at QE
  cases QE
end Go.Proofs.Ytmhaiihjfgfaoaa.Pr
end
