import Derived.Test.YtmhaiihjfgfaoaaGzGliderReaches3
import Derived.Test.YtmhaiihjfgfaoaaGzGliderReaches19
import Derived.Test.YtmhaiihjfgfaoaaGzGliderReaches15
import Derived.Test.YtmhaiihjfgfaoaaGzGliderReaches22
import Derived.Test.YtmhaiihjfgfaoaaGzGliderReaches23
open Go.Value renaming int → U
open Go.IntKind renaming i64 → Z
open Bool renaming true → ab, false → ac
section
namespace Go.Proofs.Ytmhaiihjfgfaoaa.Pr
open Go.RowKit Go.Proofs.YtmhaiihjfgfaoaaW.PrintWords Go.Proofs.YtmhaiihjfgfaoaaW.PrintLast Go.Proofs.YtmhaiihjfgfaoaaW.PrintMore
attribute [local go_sem] eD eF fD fE eG
set_option linter.unusedVariables false
set_option linter.unusedSimpArgs false
mutual
def aW.j0:Nat→Int→Int→Bool→Int→Int→Int→Int→Int→Int→Int→List Bool→List (oV)→Int→Int→Int→Int→Int→Int→Int→Int→Int→Int→Int→Int→Int→Int→Int→Int→Int→Option ((List (dO)) × Int)
 |0,_,_,_,_,_,_,_,_,_,_,_,_,_,_,_,_,_,_,_,_,_,_,_,_,_,_,_,_,_=>none
 |k+1,x3,x5,x40,apz,apA,apB,apC,apD,apE,apF,apG,apH,Jr,Dk,Js,Jt,Ju,Jv,Jw,apI,apJ,apK,apL,Jy,Jz,JA,JB,JC,JD=>if x40 = true then (some (([]:List (dO)),3)) else ((aX.f k apz apA apB apC apD apE apF apG apH Jr Dk Js Jt Ju Jv Jw apI apJ apK apL x3 x5).bind fun YG=>(if YG.2 = true then (aW.l0 k x3 YG.1 0 Jr Dk Js Jt Ju Jv Jw Jy Jz JA JB JC JD) else (some (([]:List (dO)),5))))
def aW.l0:Nat→Int→List (dO)→Int→Int→Int→Int→Int→Int→Int→Int→Int→Int→Int→Int→Int→Int→Option ((List (dO)) × Int)
 |0,_,_,_,_,_,_,_,_,_,_,_,_,_,_,_,_=>none
 |k+1,x3,KZ,Yg,Jr,Dk,Js,Jt,Ju,Jv,Jw,Jy,Jz,JA,JB,JC,JD=>if Yg < (KZ.length:Int) then (if (wrap64 (x3+(wrap64 ((wrap64 (Yg+1))*Dk)))) ≥ JC then (if (wrap64 (x3+(wrap64 ((wrap64 (Yg+1))*Dk))))≤JD then (if 0≤Yg then ((fI.f ((bq KZ Yg).f0.f0) ((bq KZ Yg).f0.f1) ((bq KZ Yg).f1.f0) ((bq KZ Yg).f1.f1) Jy Jz JA JB).bind fun apM=>(if apM = true then (some (([]:List (dO)),15)) else (aW.l0 k x3 KZ (wrap64 (Yg+1)) Jr Dk Js Jt Ju Jv Jw Jy Jz JA JB JC JD))) else (none)) else (aW.l0 k x3 KZ (wrap64 (Yg+1)) Jr Dk Js Jt Ju Jv Jw Jy Jz JA JB JC JD)) else (aW.l0 k x3 KZ (wrap64 (Yg+1)) Jr Dk Js Jt Ju Jv Jw Jy Jz JA JB JC JD)) else (some (KZ,0))
end
def aW.f (k:Nat) (ah:Int) (ai:Int) (ax:Int) (ay:Int) (aK:Int) (aH:Int) (aJ:Int) (aR:List Bool) (aC:List (oV)) (aQ:Int) (aM:Int) (bf:Int) (bg:Int) (bD:Int) (bE:Int) (bF:Int) (bJ:Int) (bK:Int) (bM:Int) (bN:Int) (a3:Int) (jr:Int) (iO:Int) (mq:Int) (mr:Int) (mF:Int) (mG:Int) (a5:Int):Option ((List (dO)) × Int):=(bX.f k ah ai ax ay aK aH aJ aR aC aQ aM bf bg bD bE bF).bind fun MI=>(if MI = 0 then ((bI.f bJ bK bM bN a3).bind fun KJ=>(if KJ = 0 then ((il.f jr iO mq mr mF mG).bind fun Tm=>(if Tm = true then (if a5 < 1 then (aW.j0 k a3 a5 true ah ai ax ay aK aH aJ aR aC aQ aM bf bg bD bE bF bJ bK bM bN jr iO mq mr mF mG) else (aW.j0 k a3 a5 (decide (a5 > 64)) ah ai ax ay aK aH aJ aR aC aQ aM bf bg bD bE bF bJ bK bM bN jr iO mq mr mF mG)) else (some (([]:List (dO)),2)))) else ((bI.f bJ bK bM bN a3).bind fun Tn=>(some (([]:List (dO)),Tn))))) else ((bX.f k ah ai ax ay aK aH aJ aR aC aQ aM bf bg bD bE bF).bind fun YH=>(some (([]:List (dO)),YH))))
def aW.T16:Bool × List (List Nat × List Nat):=(true,[([],[]),([],[]),([1],[1]),([0,2],[0,2]),([3],[3]),([4],[4]),([4],[4]),([6,4],[4,6]),([5,7,4],[4,5,7]),([4,8],[4,8]),([9,4],[9]),([10],[10]),([10],[10]),([11,12,10],[10,11,12]),([13,10],[10,13]),([10],[10]),([15,10],[10,15]),([14,16,10,10],[10,14,16]),([10,17],[10,17])])
def aW.B16:List Nat:=[0,0,2,7,15,31,31,95,255,511,1023,2047,2047,8191,16383,2047,34815,131071,262143]
theorem aW.T9:qX .any (opsOf Try.f54 16) = aW.T16:=by kernel_rfl
theorem aW.N8:ou aW.T16.2 aW.B16 = true:=by kernel_rfl
set_option maxHeartbeats 8000000 in
set_option maxRecDepth 100000 in
theorem aW.calls (k:Nat) (ah:Int) (ai:Int) (ax:Int) (ay:Int) (aK:Int) (aH:Int) (aJ:Int) (dG:Option Addr) (dH:Nat) (aR:List Bool) (dJ:Option Addr) (dI:Nat) (aC:List (oV)) (aQ:Int) (aM:Int) (bf:Int) (bg:Int) (bD:Int) (bE:Int) (bF:Int) (bJ:Int) (bK:Int) (bM:Int) (bN:Int) (a3:Int) (jr:Int) (iO:Int) (mq:Int) (mr:Int) (mF:Int) (mG:Int) (a5:Int) (r1:List (dO)) (r2:Int) (w:World) (iU:Kd.C Kd.bool w dG aR.length aR) (iV:aR.length≤dH) (iW:Kd.C DD w dJ aC.length aC) (iX:aC.length≤dI) (h:aW.f k ah ai ax ay aK aH aJ aR aC aQ aM bf bg bD bE bF bJ bK bM bN a3 jr iO mq mr mF mG a5 = some (r1,r2)):
 Calls Try.prog 54 #[.agg #[U Z ah,U Z ai,U Z ax,U Z ay,U Z aK,U Z aH,U Z aJ,.slice dG aR.length dH,.slice dJ aC.length dI],.agg #[U Z aQ,U Z aM,U Z bf,U Z bg,U Z bD,U Z bE,U Z bF],.agg #[U Z bJ,U Z bK,U Z bM,U Z bN],U Z a3,.agg #[U Z jr,U Z iO,U Z mq,U Z mr,U Z mF,U Z mG],U Z a5] w fun e w'=>∃ Vn:Value,e = .returned (.tuple #[Vn,U Z r2])∧Kd.R Iy 31 w' w.heap.size (fun _=>True) Vn r1∧Below w.heap.size w w':=by
 have zR:=Try.underlying25
 have Cb:=Try.underlying29
 have oP:=Try.underlying31
 have aiS:=Try.underlying81
 have gq:=aa.mk iU
 have gu:=aa.mk iV
 clear iU iV
 have fH:=aa.mk iW
 have gz:=aa.mk iX
 clear iW iX
 have HB:=aa.mk (Below.refl w.heap.size w)
 have H:((bX.f k ah ai ax ay aK aH aJ aR aC aQ aM bf bg bD bE bF).bind fun MI=>(if MI = 0 then ((bI.f bJ bK bM bN a3).bind fun KJ=>(if KJ = 0 then ((il.f jr iO mq mr mF mG).bind fun Tm=>(if Tm = true then (if a5 < 1 then (aW.j0 k a3 a5 true ah ai ax ay aK aH aJ aR aC aQ aM bf bg bD bE bF bJ bK bM bN jr iO mq mr mF mG) else (aW.j0 k a3 a5 (decide (a5 > 64)) ah ai ax ay aK aH aJ aR aC aQ aM bf bg bD bE bF bJ bK bM bN jr iO mq mr mF mG)) else (some (([]:List (dO)),2)))) else ((bI.f bJ bK bM bN a3).bind fun Tn=>(some (([]:List (dO)),Tn))))) else ((bX.f k ah ai ax ay aK aH aJ aR aC aQ aM bf bg bD bE bF).bind fun YH=>(some (([]:List (dO)),YH))))) = some (r1,r2):=h
 clear h
 replace H:=Option.bind_eq_some_iff.mp H
 obtain ⟨MI,A70,H⟩:=H
 replace H:(if MI = 0 then ((bI.f bJ bK bM bN a3).bind fun KJ=>(if KJ = 0 then ((il.f jr iO mq mr mF mG).bind fun Tm=>(if Tm = true then (if a5 < 1 then (aW.j0 k a3 a5 true ah ai ax ay aK aH aJ aR aC aQ aM bf bg bD bE bF bJ bK bM bN jr iO mq mr mF mG) else (aW.j0 k a3 a5 (decide (a5 > 64)) ah ai ax ay aK aH aJ aR aC aQ aM bf bg bD bE bF bJ bK bM bN jr iO mq mr mF mG)) else (some (([]:List (dO)),2)))) else ((bI.f bJ bK bM bN a3).bind fun Tn=>(some (([]:List (dO)),Tn))))) else ((bX.f k ah ai ax ay aK aH aJ aR aC aQ aM bf bg bD bE bF).bind fun YH=>(some (([]:List (dO)),YH)))) = some (r1,r2):=H
 have A7:=aa.mk A70
 clear A70
 by_cases c8:MI = 0
 ·rw [if_pos c8] at H
  have KI:(MI == 0) = true:=beq_iff_eq.mpr c8
  have avP:(MI != 0) = false:=bne_eq_false_iff_eq.mpr c8
  clear c8
  replace H:=Option.bind_eq_some_iff.mp H
  obtain ⟨KJ,A90,H⟩:=H
  replace H:(if KJ = 0 then ((il.f jr iO mq mr mF mG).bind fun Tm=>(if Tm = true then (if a5 < 1 then (aW.j0 k a3 a5 true ah ai ax ay aK aH aJ aR aC aQ aM bf bg bD bE bF bJ bK bM bN jr iO mq mr mF mG) else (aW.j0 k a3 a5 (decide (a5 > 64)) ah ai ax ay aK aH aJ aR aC aQ aM bf bg bD bE bF bJ bK bM bN jr iO mq mr mF mG)) else (some (([]:List (dO)),2)))) else ((bI.f bJ bK bM bN a3).bind fun Tn=>(some (([]:List (dO)),Tn)))) = some (r1,r2):=H
  have A9:=aa.mk A90
  clear A90
  by_cases c10:KJ = 0
  ·rw [if_pos c10] at H
   have Cn:(KJ == 0) = true:=beq_iff_eq.mpr c10
   have aiW:(KJ != 0) = false:=bne_eq_false_iff_eq.mpr c10
   clear c10
   replace H:=Option.bind_eq_some_iff.mp H
   obtain ⟨Tm,azP,H⟩:=H
   replace H:(if Tm = true then (if a5 < 1 then (aW.j0 k a3 a5 true ah ai ax ay aK aH aJ aR aC aQ aM bf bg bD bE bF bJ bK bM bN jr iO mq mr mF mG) else (aW.j0 k a3 a5 (decide (a5 > 64)) ah ai ax ay aK aH aJ aR aC aQ aM bf bg bD bE bF bJ bK bM bN jr iO mq mr mF mG)) else (some (([]:List (dO)),2))) = some (r1,r2):=H
   have A11:=aa.mk azP
   clear azP
   by_cases c12:Tm = true
   ·subst c12
    have H1:(if a5 < 1 then (aW.j0 k a3 a5 true ah ai ax ay aK aH aJ aR aC aQ aM bf bg bD bE bF bJ bK bM bN jr iO mq mr mF mG) else (aW.j0 k a3 a5 (decide (a5 > 64)) ah ai ax ay aK aH aJ aR aC aQ aM bf bg bD bE bF bJ bK bM bN jr iO mq mr mF mG)) = some (r1,r2):=by rw [if_pos rfl] at H;exact H
    clear H
    have H:=H1
    clear H1
    have avQ:=aa.mk H
    clear H
    go_enter Try.func54,Try.ntmps54
    go_upto_region 7 with (first|((with_reducible refine aG (N:=6) rfl ?_);refine az (by rfl) (N:=6) (by rfl) (cs:=#[U Z ah,U Z ai,U Z ax,U Z ay,U Z aK,U Z aH,U Z aJ,.slice dG aR.length dH,.slice dJ aC.length dI]) (t:=25) fM ?_;intro YI hg w14 hbox hb;have dZ:=aa.mk (hbox);have aiX:=dn HB hg;have aiY:=dn HB hg;replace HB:=dw HB hb;clear hb hbox hg)|((with_reducible refine aG (N:=7) rfl ?_);refine az (by rfl) (N:=7) (by rfl) (cs:=#[U Z aQ,U Z aM,U Z bf,U Z bg,U Z bD,U Z bE,U Z bF]) (t:=29) fM ?_;intro YJ hg w15 hbox hb;have fe:=aa.mk (hbox);have aiZ:=dn HB hg;have ai0:=dn HB hg;have mV:=iq dZ hg;have mW:=iw dZ hg;replace dZ:=bC dZ hb;replace HB:=dw HB hb;clear hb hbox hg)|((with_reducible refine aG (N:=8) rfl ?_);refine az (by rfl) (N:=8) (by rfl) (cs:=#[U Z bJ,U Z bK,U Z bM,U Z bN]) (t:=31) fM ?_;intro Pn hg w16 hbox hb;have gB:=aa.mk (hbox);have ai1:=dn HB hg;have ai2:=dn HB hg;have rP:=iq dZ hg;have rQ:=iw dZ hg;have mY:=iq fe hg;have mZ:=iw fe hg;replace dZ:=bC dZ hb;replace fe:=bC fe hb;replace HB:=dw HB hb;clear hb hbox hg)|((with_reducible refine aG (N:=10) rfl ?_);refine az (by rfl) (N:=10) (by rfl) (cs:=#[U Z jr,U Z iO,U Z mq,U Z mr,U Z mF,U Z mG]) (t:=81) fM ?_;intro oI hg w17 hbox hb;have iL:=aa.mk (hbox);have ai3:=dn HB hg;have ai4:=dn HB hg;have rR:=iq dZ hg;have rT:=iw dZ hg;have ng:=iq fe hg;have ni:=iw fe hg;have uN:=iq gB hg;have uO:=iw gB hg;replace dZ:=bC dZ hb;replace fe:=bC fe hb;replace gB:=bC gB hb;replace HB:=dw HB hb;clear hb hbox hg;have X3:=mV.out;have X4:=mW.out;have aic:=rP.out;have aid:=rQ.out;have atS:=rR.out;have atT:=rT.out;obtain ⟨pO,pQ,uf,ug,C8,C9,Da,FY,FZ,pR,pU,uh,ui,Db,Dc,De,F3,F4⟩:=iH dZ.out;have abw:=mY.out;have abx:=mZ.out;have X5:=ng.out;have X6:=ni.out;obtain ⟨rq,ru,Ah,Ai,Iz,IA,IB,ry,rz,Aj,Ak,IC,IE,IG⟩:=jb fe.out)|((with_reducible refine aN (f:=79) rfl ?_);refine bT (some 20) rfl rfl Try.func79 aY rfl #[.agg #[U Z ah,U Z ai,U Z ax,U Z ay,U Z aK,U Z aH,U Z aJ,.slice dG aR.length dH,.slice dJ aC.length dI],.agg #[U Z aQ,U Z aM,U Z bf,U Z bg,U Z bD,U Z bE,U Z bF]] rfl iG ?_;(with_reducible refine (bX.calls k ah ai ax ay aK aH aJ _ _ aR _ _ aC aQ aM bf bg bD bE bF MI _ ?df ?dh ?dK ?dL A7.out).mono ?_);(case df=>repeat (first|exact (Kd.bz gq.out HB.out)|(with_reducible refine Kd.bA ?_ _)|(with_reducible refine Kd.bB ?_ _)|(with_reducible refine Kd.bQ ?_)));(case dh=>exact gu.out);(case dK=>repeat (first|exact (Kd.bz fH.out HB.out)|(with_reducible refine Kd.bA ?_ _)|(with_reducible refine Kd.bB ?_ _)|(with_reducible refine Kd.bQ ?_)));(case dL=>exact gz.out);rintro e w25 ⟨rfl,hb⟩;refine ⟨_,rfl,?_⟩;replace dZ:=bC dZ hb;replace fe:=bC fe hb;replace gB:=bC gB hb;replace iL:=bC iL hb;replace HB:=dw HB hb;(try clear hb);(try clear hb2);(try clear hk);(try clear hi);have ait:=uN.out;have aiu:=uO.out;obtain ⟨yS,yT,yU,yV,yX,yY,yZ,za⟩:=gD gB.out)|((with_reducible refine aN (f:=80) rfl ?_);refine bT (some 27) rfl rfl Try.func80 aY rfl #[.agg #[U Z bJ,U Z bK,U Z bM,U Z bN],U Z a3] rfl iG ?_;(with_reducible refine (bI.calls bJ bK bM bN a3 KJ _ A9.out).mono ?_);rintro e w28 ⟨rfl,hb⟩;refine ⟨_,rfl,?_⟩;replace dZ:=bC dZ hb;replace fe:=bC fe hb;replace gB:=bC gB hb;replace iL:=bC iL hb;replace HB:=dw HB hb;(try clear hb);(try clear hb2);(try clear hk);(try clear hi);obtain ⟨qB,qC,sV,sW,vN,vO,qD,qE,sZ,tq,vP,vQ⟩:=DU iL.out)|((with_reducible refine aN (f:=95) rfl ?_);refine bT (some 33) rfl rfl Try.func95 aY rfl #[.agg #[U Z jr,U Z iO,U Z mq,U Z mr,U Z mF,U Z mG]] rfl iG ?_;(with_reducible refine (il.calls jr iO mq mr mF mG true _ A11.out).mono ?_);rintro e w30 ⟨rfl,hb⟩;refine ⟨_,rfl,?_⟩;replace dZ:=bC dZ hb;replace fe:=bC fe hb;replace gB:=bC gB hb;replace iL:=bC iL hb;replace HB:=dw HB hb;(try clear hb);(try clear hb2);(try clear hk);(try clear hi)))
    (try simp only [Act.put,List.setIfInBounds_toArray,List.set_cons_zero,List.set_cons_succ])
    go_cut [40] (fun v40 wc=>∃ (kq:Nat) (Wz:Bool),v40 = .bool Wz∧aa (aW.j0 kq a3 a5 Wz ah ai ax ay aK aH aJ aR aC aQ aM bf bg bD bE bF bJ bK bM bN jr iO mq mr mF mG = some (r1,r2))∧aa (kq≤k)∧aa (wc.heap[YI]? = some (.cells #[U Z ah,U Z ai,U Z ax,U Z ay,U Z aK,U Z aH,U Z aJ,(.slice dG aR.length dH),(.slice dJ aC.length dI)] 25 (0,0)))∧aa (wc.heap[YJ]? = some (.cells #[U Z aQ,U Z aM,U Z bf,U Z bg,U Z bD,U Z bE,U Z bF] 29 (0,0)))∧aa (wc.heap[Pn]? = some (.cells #[U Z bJ,U Z bK,U Z bM,U Z bN] 31 (0,0)))∧aa (wc.heap[oI]? = some (.cells #[U Z jr,U Z iO,U Z mq,U Z mr,U Z mF,U Z mG] 81 (0,0)))∧aa (Below w.heap.size w wc))
    case first =>
     have H:=avQ.out
     clear avQ
     by_cases c31:a5 < 1
     ·rw [if_pos c31] at H
      have Kk:decide (a5 < 1) = true:=decide_eq_true c31
      clear c31
      (first|rw [Kk]|(simp only [eB,eH];rw [Kk])|skip)
      have H':=aa.mk H
      clear H
      go_wp2
      go_meet
      case rel=>exact ⟨_,(true),mg,H',⟨wE⟩,⟨fB⟩,⟨fB⟩,⟨fB⟩,⟨fB⟩,⟨fu⟩⟩
     ·rw [if_neg c31] at H
      have Kk:decide (a5 < 1) = false:=decide_eq_false c31
      clear c31
      (first|rw [Kk]|(simp only [eB,eH];rw [Kk])|skip)
      have H':=aa.mk H
      clear H
      go_wp2
      go_meet
      case rel=>exact ⟨_,(decide (a5 > 64)),mg,H',⟨wE⟩,⟨fB⟩,⟨fB⟩,⟨fB⟩,⟨fB⟩,⟨fu⟩⟩
    case rest =>
     clear avQ
     try clear c1
     try clear c2
     try clear p2
     try clear c3
     try clear c5
     try clear c7
     try clear c8
     try clear KI
     try clear avP
     try clear c9
     try clear c10
     try clear Cn
     try clear aiW
     try clear c12
     try clear c18
     try clear c19
     try clear c20
     try clear SE
     try clear c23
     try clear K3
     try clear c31
     try clear Kk
     try clear pO pQ uf ug C8 C9 Da FY FZ
     try clear rq ru Ah Ai Iz IA IB
     try clear yS yT yU yV
     try clear qB qC sV sW vN vO
     try clear pR pU uh ui Db Dc De F3 F4
     try clear ry rz Aj Ak IC IE IG
     try clear yX yY yZ za
     try clear qD qE sZ tq vP vQ
     obtain ⟨kq,Wz,rfl,HA,af8,dZ,fe,gB,iL,HB⟩:=hcut
     cases kq with
     |zero=>exact absurd HA.out (by simp [aW.j0])
     |succ YK =>
      have H:=HA.out
      clear HA
      simp only [aW.j0] at H
      by_cases c32:Wz = true
      ·subst c32
       have H1:(some (([]:List (dO)),3)) = some (r1,r2):=by rw [if_pos rfl] at H;exact H
       clear H
       have H:=H1
       clear H1
       simp only [Option.some.injEq,Prod.mk.injEq] at H
       obtain ⟨rfl,rfl⟩:=H
       go_wp2
       go_ret2
       exact ⟨_,kL,N9,fu⟩
      ·replace c32:=Bool.eq_false_iff.mpr c32
       subst c32
       have H1:((aX.f YK ah ai ax ay aK aH aJ aR aC aQ aM bf bg bD bE bF bJ bK bM bN a3 a5).bind fun YG=>(if YG.2 = true then (aW.l0 YK a3 YG.1 0 aQ aM bf bg bD bE bF jr iO mq mr mF mG) else (some (([]:List (dO)),5)))) = some (r1,r2):=by rw [if_neg (show ¬ (false = true) by decide)] at H;exact H
       clear H
       have H:=H1
       clear H1
       replace H:=Option.bind_eq_some_iff.mp H
       obtain ⟨⟨qm,azQ⟩,azR,H⟩:=H
       replace H:(if azQ = true then (aW.l0 YK a3 qm 0 aQ aM bf bg bD bE bF jr iO mq mr mF mG) else (some (([]:List (dO)),5))) = some (r1,r2):=H
       have A33:=aa.mk azR
       clear azR
       by_cases c34:azQ = true
       ·subst c34
        have H1:(aW.l0 YK a3 qm 0 aQ aM bf bg bD bE bF jr iO mq mr mF mG) = some (r1,r2):=by rw [if_pos rfl] at H;exact H
        clear H
        have H:=H1
        clear H1
        have H':=aa.mk H
        clear H
        have atU:=mV.out
        have atV:=mW.out
        have aif:=rP.out
        have aih:=rQ.out
        have asX:=rR.out
        have asY:=rT.out
        obtain ⟨Wj,Wl,Wm,Wn,apN,apO,apP,apQ,apR,Wo,Wp,Wq,Ws,apS,apT,apU,apV,apW⟩:=iH dZ.out
        have Yn:=mY.out
        have Yo:=mZ.out
        have atj:=ng.out
        have atl:=ni.out
        obtain ⟨Qq,Qr,Vq,Vr,adj,adk,adl,Qs,Qt,Vs,Vt,adm,adn,ado⟩:=jb fe.out
        have aRW:=uN.out
        have aRX:=uO.out
        obtain ⟨LB,LC,LD,LF,LG,LH,LJ,LK⟩:=gD gB.out
        go_wp2_with (first|((with_reducible refine aN (f:=102) rfl ?_);refine bT (some 47) rfl rfl Try.func102 aY rfl #[.agg #[U Z ah,U Z ai,U Z ax,U Z ay,U Z aK,U Z aH,U Z aJ,.slice dG aR.length dH,.slice dJ aC.length dI],.agg #[U Z aQ,U Z aM,U Z bf,U Z bg,U Z bD,U Z bE,U Z bF],.agg #[U Z bJ,U Z bK,U Z bM,U Z bN],U Z a3,U Z a5] rfl iG ?_;(with_reducible refine (aX.calls YK ah ai ax ay aK aH aJ _ _ aR _ _ aC aQ aM bf bg bD bE bF bJ bK bM bN a3 a5 qm true _ ?df ?dh ?dK ?dL A33.out).mono ?_);(case df=>repeat (first|exact (Kd.bz gq.out HB.out)|(with_reducible refine Kd.bA ?_ _)|(with_reducible refine Kd.bB ?_ _)|(with_reducible refine Kd.bQ ?_)));(case dh=>exact gu.out);(case dK=>repeat (first|exact (Kd.bz fH.out HB.out)|(with_reducible refine Kd.bA ?_ _)|(with_reducible refine Kd.bB ?_ _)|(with_reducible refine Kd.bQ ?_)));(case dL=>exact gz.out);rintro e w44 ⟨azS,rfl,ho0,hb⟩;refine ⟨_,rfl,?_⟩;have atW:=aa.mk (Kd.jH (Kd.qP ho0 (g:=Pn) (o:=.cells #[U Z bJ,U Z bK,U Z bM,U Z bN] 31 (0,0)) fB) (fJ fu));replace dZ:=bC dZ hb;replace fe:=bC fe hb;replace gB:=bC gB hb;replace iL:=bC iL hb;replace HB:=dw HB hb;(try clear hb);(try clear hb2);(try clear hk);(try clear hi);(try clear ho0)))
        go_loopg [16] YK (fun kq v16 w'=>∃ (gU:Int),v16 = U Z gU∧aa (aW.l0 kq a3 qm gU aQ aM bf bg bD bE bF jr iO mq mr mF mG = some (r1,r2))∧aa (kq≤YK)∧aa (Kd.R Iy 31 w' w.heap.size (fun k_=>k_≠Pn) azS qm)∧aa (w'.heap[YI]? = some (.cells #[U Z ah,U Z ai,U Z ax,U Z ay,U Z aK,U Z aH,U Z aJ,(.slice dG aR.length dH),(.slice dJ aC.length dI)] 25 (0,0)))∧aa (w'.heap[YJ]? = some (.cells #[U Z aQ,U Z aM,U Z bf,U Z bg,U Z bD,U Z bE,U Z bF] 29 (0,0)))∧aa (w'.heap[Pn]? = some (.cells #[U Z bJ,U Z bK,U Z bM,U Z bN] 31 (0,0)))∧aa (w'.heap[oI]? = some (.cells #[U Z jr,U Z iO,U Z mq,U Z mr,U Z mF,U Z mG] 81 (0,0)))∧aa (Below w.heap.size w w'))
        case atStart=>exact ⟨(0),mg,H',⟨Nat.le_refl _⟩,⟨by (with_reducible repeat (first|apply Kd.jf|apply Kd.iQ|apply Kd.iE));exact Kd.jC atW.out (fun _ hk=>hk.2)⟩,⟨fB⟩,⟨fB⟩,⟨fB⟩,⟨fB⟩,⟨fu⟩⟩
        case round =>
         clear H'
         try clear c1
         try clear c2
         try clear p2
         try clear c3
         try clear c4
         try clear c5
         try clear c7
         try clear c8
         try clear KI
         try clear avP
         try clear c9
         try clear c10
         try clear Cn
         try clear aiW
         try clear c12
         try clear c18
         try clear c19
         try clear c20
         try clear SE
         try clear c23
         try clear K3
         try clear c31
         try clear Kk
         try clear c32
         try clear c34
         try clear c35
         try clear c36
         try clear c37
         try clear c39
         try clear c40
         try clear c42
         try clear pO pQ uf ug C8 C9 Da FY FZ
         try clear rq ru Ah Ai Iz IA IB
         try clear yS yT yU yV
         try clear qB qC sV sW vN vO
         try clear Wj Wl Wm Wn apN apO apP apQ apR
         try clear Qq Qr Vq Vr adj adk adl
         try clear LB LC LD LF
         try clear pR pU uh ui Db Dc De F3 F4
         try clear ry rz Aj Ak IC IE IG
         try clear yX yY yZ za
         try clear qD qE sZ tq vP vQ
         try clear Wo Wp Wq Ws apS apT apU apV apW
         try clear Qs Qt Vs Vt adm adn ado
         try clear LG LH LJ LK
         try clear p2
         obtain ⟨gU,rfl,HA,Vo,qa,dZ,fe,gB,iL,HB⟩:=hrel
         cases gk with
         |zero=>exact absurd HA.out (by simp [aW.l0])
         |succ k2 =>
          have H:=HA.out
          clear HA
          simp only [aW.l0] at H
          by_cases c45:gU < (qm.length:Int)
          ·rw [if_pos c45] at H
           have adH:decide (gU < (qm.length:Int)) = true:=decide_eq_true c45
           clear c45
           by_cases c46:(wrap64 (a3+(wrap64 ((wrap64 (gU+1))*aM)))) ≥ mF
           ·rw [if_pos c46] at H
            have azT:decide (mF≤(wrap64 (a3+(wrap64 ((wrap64 (gU+1))*aM))))) = true:=decide_eq_true c46
            clear c46
            by_cases c47:(wrap64 (a3+(wrap64 ((wrap64 (gU+1))*aM))))≤mG
            ·rw [if_pos c47] at H
             have azU:decide ((wrap64 (a3+(wrap64 ((wrap64 (gU+1))*aM))))≤mG) = true:=decide_eq_true c47
             clear c47
             by_cases c48:0≤gU
             ·rw [if_pos c48] at H
              have aRY:decide (0≤gU) = true:=decide_eq_true c48
              clear c48
              replace H:=Option.bind_eq_some_iff.mp H
              obtain ⟨apM,azW,H⟩:=H
              replace H:(if apM = true then (some (([]:List (dO)),15)) else (aW.l0 k2 a3 qm (wrap64 (gU+1)) aQ aM bf bg bD bE bF jr iO mq mr mF mG)) = some (r1,r2):=H
              have A49:=aa.mk azW
              clear azW
              by_cases c50:apM = true
              ·subst c50
               have H1:(some (([]:List (dO)),15)) = some (r1,r2):=by rw [if_pos rfl] at H;exact H
               clear H
               have H:=H1
               clear H1
               simp only [Option.some.injEq,Prod.mk.injEq] at H
               obtain ⟨rfl,rfl⟩:=H
               obtain ⟨aUq,aUr,aOx⟩:=Kd.jI qa.out
               subst aOx
               have atm:=mW.out
               have atn:=mV.out
               have ato:=mY.out
               have atp:=mZ.out
               have ay9:=ng.out
               have aza:=ni.out
               obtain ⟨anx,anz,anA,anB,anC,anD,anE,anF,anG,anH,anI,anJ,anK,anL⟩:=jb fe.out
               try go_wp2
               replace qa:=aa.mk (Kd.iE qa.out)
               replace dZ:=aa.mk (ag dZ.out)
               replace fe:=aa.mk (ag fe.out)
               replace gB:=aa.mk (ag gB.out)
               replace iL:=aa.mk (ag iL.out)
               replace HB:=aa.mk (bU HB.out)
               have aaI:0≤(gU:Int):=of_decide_eq_true qN
               have aaJ:gU < (qm.length:Int):=of_decide_eq_true qN
               obtain ⟨BN,avS,MJ,MK,ML,MM⟩:=uz (Kd.fo qa.out).2.2 gU aaI aaJ
               cases avS
               replace aaI:=eq_true aaI
               replace aaJ:=eq_true aaJ
               refine jT (n:=19) (S:=fun w'=>w'.cell? ⟨oI,0,none⟩ = some (U Z jr)∧w'.cell? ⟨oI,1,none⟩ = some (U Z iO)∧w'.cell? ⟨oI,2,none⟩ = some (U Z mq)∧w'.cell? ⟨oI,3,none⟩ = some (U Z mr)∧w'.cell? ⟨oI,4,none⟩ = some (U Z mF)∧w'.cell? ⟨oI,5,none⟩ = some (U Z mG)∧w'.cell? (BN.add ((gU).toNat*4)) = some (U Z ((bq qm gU).f0.f0))∧w'.cell? ⟨(BN.add ((gU).toNat*4)).block,(BN.add ((gU).toNat*4)).off+1,none⟩ = some (U Z ((bq qm gU).f0.f1))∧w'.cell? ⟨(BN.add ((gU).toNat*4)).block,(BN.add ((gU).toNat*4)).off+2,none⟩ = some (U Z ((bq qm gU).f1.f0))∧w'.cell? ⟨(BN.add ((gU).toNat*4)).block,(BN.add ((gU).toNat*4)).off+3,none⟩ = some (U Z ((bq qm gU).f1.f1))) (ds:=[]) #[ac,ac,ac,ac,ac,ac,ac,ac,ac,ac,ac,ac,ac,ac,ac,ac,ac,ac,ac] aY rfl rfl (apX iL.out ⟨MJ,MK,ML,MM⟩) (fun hHeld=>?_);refine jg aW.T9 aW.N8 (fun cO lS=>?_)
               generalize wr.drew = w56 at qa dZ fe gB iL HB MJ MK ML MM hHeld ⊢
               refine dW (i:=0) (N:=some 65) (aU cO.out aY) ?_
               refine dW (i:=1) (N:=some 66) (aU cO.out aY) ?_
               refine ja (i:=2) (N:=some 67) (bS cO.out lS.out aY) hHeld ?_
               refine dW (i:=3) (N:=some 68) (aU cO.out aY) ?_
               refine dW (i:=4) (N:=some 69) (aU cO.out aY) ?_
               refine dW (i:=5) (N:=some 70) (aU cO.out aY) ?_
               refine dW (i:=6) (N:=some 71) (aU cO.out aY) ?_
               refine ja (i:=7) (N:=some 72) (bS cO.out lS.out aY) hHeld ?_
               refine dW (i:=8) (N:=some 73) (aU cO.out aY) ?_
               refine dW (i:=9) (N:=some 74) (aU cO.out aY) ?_
               refine dW (i:=10) (N:=some 75) (aU cO.out aY) ?_
               refine dW (i:=11) (N:=some 76) (aU cO.out aY) ?_
               refine dW (i:=12) (N:=some 77) (aU cO.out aY) ?_
               refine dW (i:=13) (N:=some 78) (aU cO.out aY) ?_
               refine dW (i:=15) (N:=some 80) (aU cO.out aY) ?_
               refine ja (i:=14) (N:=some 79) (bS cO.out lS.out aY) hHeld ?_
               refine ja (i:=16) (N:=some 81) (bS cO.out lS.out aY) hHeld ?_
               refine jJ (i:=17) (N:=some 82) #[ab,ab,ab,ab,ab,ab,ab,ab,ab,ab,ab,ab,ab,ab,ab,ab,ab,ab,ac] rfl rfl (gM cO.out aY) (by decide) (fun K hK=>?_)
               refine gQ Try.func104 aY rfl #[.agg #[U Z ((bq qm gU).f0.f0),U Z ((bq qm gU).f0.f1),U Z ((bq qm gU).f1.f0),U Z ((bq qm gU).f1.f1)],.agg #[U Z jr,U Z iO,U Z mq,U Z mr]] (by rfl) rfl rfl iG ?_
               with_reducible refine (fI.calls ((bq qm gU).f0.f0) ((bq qm gU).f0.f1) ((bq qm gU).f1.f0) ((bq qm gU).f1.f1) jr iO mq mr true _ A49.out).mono ?_
               rintro e w57 ⟨rfl,hb⟩
               have avT:=(hb.cell (World.block_lt_of_cell? _ _ (hHeld.2.2.2.2.2.2.1))).trans (hHeld.2.2.2.2.2.2.1)
               have avU:=(hb.cell (World.block_lt_of_cell? _ _ (hHeld.2.2.2.2.2.2.2.1))).trans (hHeld.2.2.2.2.2.2.2.1)
               have avV:=(hb.cell (World.block_lt_of_cell? _ _ (hHeld.2.2.2.2.2.2.2.2.1))).trans (hHeld.2.2.2.2.2.2.2.2.1)
               have avW:=(hb.cell (World.block_lt_of_cell? _ _ (hHeld.2.2.2.2.2.2.2.2.2))).trans (hHeld.2.2.2.2.2.2.2.2.2)
               refine ⟨_,rfl,?_⟩
               replace qa:=uW qa hb
               replace dZ:=bC dZ hb
               replace fe:=bC fe hb
               replace gB:=bC gB hb
               replace iL:=bC iL hb
               replace HB:=dw HB hb
               (try clear hb)
               (try clear hb2)
               (try clear hk)
               (try clear hi)
               refine hK.out _ _ (apX iL.out ⟨avT,avU,avV,avW⟩) (fun hHeld=>?_)
               clear hK K
               refine eY avX ?_
               refine dW (i:=18) (N:=some 83) (aU cO.out aY) ?_
               refine lI (lN cO.out aY) ?_
               try go_wp2
               go_ret2
               exact ⟨_,kL,N9,fu⟩
              ·replace c50:=Bool.eq_false_iff.mpr c50
               subst c50
               have H1:(aW.l0 k2 a3 qm (wrap64 (gU+1)) aQ aM bf bg bD bE bF jr iO mq mr mF mG) = some (r1,r2):=by rw [if_neg (show ¬ (false = true) by decide)] at H;exact H
               clear H
               have H:=H1
               clear H1
               have H':=aa.mk H
               clear H
               obtain ⟨aUs,aUt,aOy⟩:=Kd.jI qa.out
               subst aOy
               have aio:=mW.out
               have aip:=mV.out
               have as2:=mY.out
               have as3:=mZ.out
               have azN:=ng.out
               have azO:=ni.out
               obtain ⟨adC,adD,apo,apq,apr,aps,apt,adE,adF,apu,apv,apw,apx,apy⟩:=jb fe.out
               try go_wp2
               replace qa:=aa.mk (Kd.iE qa.out)
               replace dZ:=aa.mk (ag dZ.out)
               replace fe:=aa.mk (ag fe.out)
               replace gB:=aa.mk (ag gB.out)
               replace iL:=aa.mk (ag iL.out)
               replace HB:=aa.mk (bU HB.out)
               have aaI:0≤(gU:Int):=of_decide_eq_true qN
               have aaJ:gU < (qm.length:Int):=of_decide_eq_true qN
               obtain ⟨BN,avS,MJ,MK,ML,MM⟩:=uz (Kd.fo qa.out).2.2 gU aaI aaJ
               cases avS
               replace aaI:=eq_true aaI
               replace aaJ:=eq_true aaJ
               refine jT (n:=19) (S:=fun w'=>w'.cell? ⟨oI,0,none⟩ = some (U Z jr)∧w'.cell? ⟨oI,1,none⟩ = some (U Z iO)∧w'.cell? ⟨oI,2,none⟩ = some (U Z mq)∧w'.cell? ⟨oI,3,none⟩ = some (U Z mr)∧w'.cell? ⟨oI,4,none⟩ = some (U Z mF)∧w'.cell? ⟨oI,5,none⟩ = some (U Z mG)∧w'.cell? (BN.add ((gU).toNat*4)) = some (U Z ((bq qm gU).f0.f0))∧w'.cell? ⟨(BN.add ((gU).toNat*4)).block,(BN.add ((gU).toNat*4)).off+1,none⟩ = some (U Z ((bq qm gU).f0.f1))∧w'.cell? ⟨(BN.add ((gU).toNat*4)).block,(BN.add ((gU).toNat*4)).off+2,none⟩ = some (U Z ((bq qm gU).f1.f0))∧w'.cell? ⟨(BN.add ((gU).toNat*4)).block,(BN.add ((gU).toNat*4)).off+3,none⟩ = some (U Z ((bq qm gU).f1.f1))) (ds:=[]) #[ac,ac,ac,ac,ac,ac,ac,ac,ac,ac,ac,ac,ac,ac,ac,ac,ac,ac,ac] aY rfl rfl (apX iL.out ⟨MJ,MK,ML,MM⟩) (fun hHeld=>?_);refine jg aW.T9 aW.N8 (fun cO lS=>?_)
               generalize wr.drew = w63 at qa dZ fe gB iL HB MJ MK ML MM hHeld ⊢
               refine dW (i:=0) (N:=some 65) (aU cO.out aY) ?_
               refine dW (i:=1) (N:=some 66) (aU cO.out aY) ?_
               refine ja (i:=2) (N:=some 67) (bS cO.out lS.out aY) hHeld ?_
               refine dW (i:=3) (N:=some 68) (aU cO.out aY) ?_
               refine dW (i:=4) (N:=some 69) (aU cO.out aY) ?_
               refine dW (i:=5) (N:=some 70) (aU cO.out aY) ?_
               refine dW (i:=6) (N:=some 71) (aU cO.out aY) ?_
               refine ja (i:=7) (N:=some 72) (bS cO.out lS.out aY) hHeld ?_
               refine dW (i:=8) (N:=some 73) (aU cO.out aY) ?_
               refine dW (i:=9) (N:=some 74) (aU cO.out aY) ?_
               refine dW (i:=10) (N:=some 75) (aU cO.out aY) ?_
               refine dW (i:=11) (N:=some 76) (aU cO.out aY) ?_
               refine dW (i:=12) (N:=some 77) (aU cO.out aY) ?_
               refine dW (i:=13) (N:=some 78) (aU cO.out aY) ?_
               refine dW (i:=15) (N:=some 80) (aU cO.out aY) ?_
               refine ja (i:=14) (N:=some 79) (bS cO.out lS.out aY) hHeld ?_
               refine ja (i:=16) (N:=some 81) (bS cO.out lS.out aY) hHeld ?_
               refine jJ (i:=17) (N:=some 82) #[ab,ab,ab,ab,ab,ab,ab,ab,ab,ab,ab,ab,ab,ab,ab,ab,ab,ab,ac] rfl rfl (gM cO.out aY) (by decide) (fun K hK=>?_)
               refine gQ Try.func104 aY rfl #[.agg #[U Z ((bq qm gU).f0.f0),U Z ((bq qm gU).f0.f1),U Z ((bq qm gU).f1.f0),U Z ((bq qm gU).f1.f1)],.agg #[U Z jr,U Z iO,U Z mq,U Z mr]] (by rfl) rfl rfl iG ?_
               with_reducible refine (fI.calls ((bq qm gU).f0.f0) ((bq qm gU).f0.f1) ((bq qm gU).f1.f0) ((bq qm gU).f1.f1) jr iO mq mr false _ A49.out).mono ?_
               rintro e w64 ⟨rfl,hb⟩
               have avT:=(hb.cell (World.block_lt_of_cell? _ _ (hHeld.2.2.2.2.2.2.1))).trans (hHeld.2.2.2.2.2.2.1)
               have avU:=(hb.cell (World.block_lt_of_cell? _ _ (hHeld.2.2.2.2.2.2.2.1))).trans (hHeld.2.2.2.2.2.2.2.1)
               have avV:=(hb.cell (World.block_lt_of_cell? _ _ (hHeld.2.2.2.2.2.2.2.2.1))).trans (hHeld.2.2.2.2.2.2.2.2.1)
               have avW:=(hb.cell (World.block_lt_of_cell? _ _ (hHeld.2.2.2.2.2.2.2.2.2))).trans (hHeld.2.2.2.2.2.2.2.2.2)
               refine ⟨_,rfl,?_⟩
               replace qa:=uW qa hb
               replace dZ:=bC dZ hb
               replace fe:=bC fe hb
               replace gB:=bC gB hb
               replace iL:=bC iL hb
               replace HB:=dw HB hb
               (try clear hb)
               (try clear hb2)
               (try clear hk)
               (try clear hi)
               refine hK.out _ _ (apX iL.out ⟨avT,avU,avV,avW⟩) (fun hHeld=>?_)
               clear hK K
               refine eY avX ?_
               refine dW (i:=18) (N:=some 83) (aU cO.out aY) ?_
               refine lI (lN cO.out aY) ?_
               try go_wp2
               go_roundg k2
               case measure=>have:=af8.out;have:=Vo.out;omega
               case rel=>exact ⟨(wrap64 (gU+1)),mg,H',⟨by have:=af8.out;have:=Vo.out;omega⟩,⟨avY⟩,⟨fB⟩,⟨fB⟩,⟨fB⟩,⟨fB⟩,⟨fu⟩⟩
             ·rw [if_neg c48] at H
              exact absurd H (by simp)
            ·rw [if_neg c47] at H
             have azU:decide ((wrap64 (a3+(wrap64 ((wrap64 (gU+1))*aM))))≤mG) = false:=decide_eq_false c47
             clear c47
             have H':=aa.mk H
             clear H
             obtain ⟨azX,azY,avZ⟩:=Kd.jI qa.out
             subst avZ
             have azf:=mW.out
             have azg:=mV.out
             have aR0:=mY.out
             have aR1:=mZ.out
             have aR2:=ng.out
             have aR3:=ni.out
             obtain ⟨al6,al7,al8,al9,ama,amb,amc,amd,ame,amf,amg,amh,ami,amj⟩:=jb fe.out
             try go_wp2
             replace qa:=aa.mk (Kd.iE qa.out)
             replace dZ:=aa.mk (ag dZ.out)
             replace fe:=aa.mk (ag fe.out)
             replace gB:=aa.mk (ag gB.out)
             replace iL:=aa.mk (ag iL.out)
             replace HB:=aa.mk (bU HB.out)
             refine jT (n:=19) (S:=fun w'=>w'.cell? ⟨oI,0,none⟩ = some (U Z jr)∧w'.cell? ⟨oI,1,none⟩ = some (U Z iO)∧w'.cell? ⟨oI,2,none⟩ = some (U Z mq)∧w'.cell? ⟨oI,3,none⟩ = some (U Z mr)∧w'.cell? ⟨oI,4,none⟩ = some (U Z mF)∧w'.cell? ⟨oI,5,none⟩ = some (U Z mG)) (ds:=[]) #[ac,ac,ac,ac,ac,ac,ac,ac,ac,ac,ac,ac,ac,ac,ac,ac,ac,ac,ac] aY rfl rfl (ai5 iL.out) (fun hHeld=>?_);refine jg aW.T9 aW.N8 (fun cO lS=>?_)
             generalize wr.drew = w70 at qa dZ fe gB iL HB hHeld ⊢
             refine dW (i:=0) (N:=some 65) (aU cO.out aY) ?_
             refine dW (i:=1) (N:=some 66) (aU cO.out aY) ?_
             refine ja (i:=2) (N:=some 67) (bS cO.out lS.out aY) hHeld ?_
             refine dW (i:=3) (N:=some 68) (aU cO.out aY) ?_
             refine dW (i:=4) (N:=some 69) (aU cO.out aY) ?_
             refine dW (i:=5) (N:=some 70) (aU cO.out aY) ?_
             refine dW (i:=6) (N:=some 71) (aU cO.out aY) ?_
             refine ja (i:=7) (N:=some 72) (bS cO.out lS.out aY) hHeld ?_
             refine dW (i:=8) (N:=some 73) (aU cO.out aY) ?_
             refine dW (i:=9) (N:=some 74) (aU cO.out aY) ?_
             refine dW (i:=10) (N:=some 75) (aU cO.out aY) ?_
             refine jR (i:=11) (N:=some 76) (v:=undef) (a':=?_) #[ab,ab,ab,ab,ab,ab,ab,ab,ab,ab,ab,ab,ac,ac,ac,ac,ac,ac,ac] rfl rfl (aU cO.out aY) (fun _ _ _ h=>h) (Or.inr ⟨by rfl,rfl⟩) ?_ ?_
             rotate_left
             ·simp only [Act.put,List.setIfInBounds_toArray,List.set_cons_zero,List.set_cons_succ,eB,eH]
              rfl
             refine jR (i:=12) (N:=some 77) (v:=undef) (a':=?_) #[ab,ab,ab,ab,ab,ab,ab,ab,ab,ab,ab,ab,ab,ac,ac,ac,ac,ac,ac] rfl rfl (aU cO.out aY) (fun _ _ _ h=>h) (Or.inr ⟨by rfl,rfl⟩) ?_ ?_
             rotate_left
             ·simp only [Act.put,List.setIfInBounds_toArray,List.set_cons_zero,List.set_cons_succ,eB,eH]
              rfl
             refine jR (i:=13) (N:=some 78) (v:=undef) (a':=?_) #[ab,ab,ab,ab,ab,ab,ab,ab,ab,ab,ab,ab,ab,ab,ac,ac,ac,ac,ac] rfl rfl (aU cO.out aY) (fun _ _ _ h=>h) (Or.inr ⟨by rfl,rfl⟩) ?_ ?_
             rotate_left
             ·simp only [Act.put,List.setIfInBounds_toArray,List.set_cons_zero,List.set_cons_succ,eB,eH]
              rfl
             refine jR (i:=14) (N:=some 79) (v:=undef) (a':=?_) #[ab,ab,ab,ab,ab,ab,ab,ab,ab,ab,ab,ab,ab,ab,ab,ac,ac,ac,ac] rfl rfl (aU cO.out aY) (fun _ _ _ h=>h) (Or.inr ⟨by rfl,rfl⟩) ?_ ?_
             rotate_left
             ·simp only [Act.put,List.setIfInBounds_toArray,List.set_cons_zero,List.set_cons_succ,eB,eH]
              rfl
             refine jR (i:=15) (N:=some 80) (v:=undef) (a':=?_) #[ab,ab,ab,ab,ab,ab,ab,ab,ab,ab,ab,ab,ab,ab,ab,ab,ac,ac,ac] rfl rfl (aU cO.out aY) (fun _ _ _ h=>h) (Or.inr ⟨by rfl,rfl⟩) ?_ ?_
             rotate_left
             ·simp only [Act.put,List.setIfInBounds_toArray,List.set_cons_zero,List.set_cons_succ,eB,eH]
              rfl
             refine jR (i:=16) (N:=some 81) (v:=undef) (a':=?_) #[ab,ab,ab,ab,ab,ab,ab,ab,ab,ab,ab,ab,ab,ab,ab,ab,ab,ac,ac] rfl rfl (aU cO.out aY) (fun _ _ _ h=>h) (Or.inr ⟨by rfl,rfl⟩) ?_ ?_
             rotate_left
             ·simp only [Act.put,List.setIfInBounds_toArray,List.set_cons_zero,List.set_cons_succ,eB,eH]
              rfl
             refine jR (i:=17) (N:=some 82) (v:=undef) (a':=?_) #[ab,ab,ab,ab,ab,ab,ab,ab,ab,ab,ab,ab,ab,ab,ab,ab,ab,ab,ac] rfl rfl (aU cO.out aY) (fun _ _ _ h=>h) (Or.inr ⟨by rfl,rfl⟩) ?_ ?_
             rotate_left
             ·simp only [Act.put,List.setIfInBounds_toArray,List.set_cons_zero,List.set_cons_succ,eB,eH]
              rfl
             refine dW (i:=18) (N:=some 83) (aU cO.out aY) ?_
             refine lI (lN cO.out aY) ?_
             try go_wp2
             go_roundg k2
             case measure=>have:=af8.out;have:=Vo.out;omega
             case rel=>exact ⟨(wrap64 (gU+1)),mg,H',⟨by have:=af8.out;have:=Vo.out;omega⟩,⟨avY⟩,⟨fB⟩,⟨fB⟩,⟨fB⟩,⟨fB⟩,⟨fu⟩⟩
           ·rw [if_neg c46] at H
            have azT:decide (mF≤(wrap64 (a3+(wrap64 ((wrap64 (gU+1))*aM))))) = false:=decide_eq_false c46
            clear c46
            have H':=aa.mk H
            clear H
            obtain ⟨aUu,aUv,aOz⟩:=Kd.jI qa.out
            subst aOz
            have ayv:=mW.out
            have ayw:=mV.out
            have ayx:=mY.out
            have ayy:=mZ.out
            have ata:=ng.out
            have atb:=ni.out
            obtain ⟨amk,aml,amm,amn,aLv,aLw,aLx,amo,amq,amr,ams,aLy,aLz,aLA⟩:=jb fe.out
            try go_wp2
            replace qa:=aa.mk (Kd.iE qa.out)
            replace dZ:=aa.mk (ag dZ.out)
            replace fe:=aa.mk (ag fe.out)
            replace gB:=aa.mk (ag gB.out)
            replace iL:=aa.mk (ag iL.out)
            replace HB:=aa.mk (bU HB.out)
            refine jT (n:=19) (S:=fun w'=>w'.cell? ⟨oI,0,none⟩ = some (U Z jr)∧w'.cell? ⟨oI,1,none⟩ = some (U Z iO)∧w'.cell? ⟨oI,2,none⟩ = some (U Z mq)∧w'.cell? ⟨oI,3,none⟩ = some (U Z mr)∧w'.cell? ⟨oI,4,none⟩ = some (U Z mF)∧w'.cell? ⟨oI,5,none⟩ = some (U Z mG)) (ds:=[]) #[ac,ac,ac,ac,ac,ac,ac,ac,ac,ac,ac,ac,ac,ac,ac,ac,ac,ac,ac] aY rfl rfl (ai5 iL.out) (fun hHeld=>?_);refine jg aW.T9 aW.N8 (fun cO lS=>?_)
            generalize wr.drew = w76 at qa dZ fe gB iL HB hHeld ⊢
            refine dW (i:=0) (N:=some 65) (aU cO.out aY) ?_
            refine dW (i:=1) (N:=some 66) (aU cO.out aY) ?_
            refine ja (i:=2) (N:=some 67) (bS cO.out lS.out aY) hHeld ?_
            refine dW (i:=3) (N:=some 68) (aU cO.out aY) ?_
            refine dW (i:=4) (N:=some 69) (aU cO.out aY) ?_
            refine jR (i:=5) (N:=some 70) (v:=undef) (a':=?_) #[ab,ab,ab,ab,ab,ab,ac,ac,ac,ac,ac,ac,ac,ac,ac,ac,ac,ac,ac] rfl rfl (aU cO.out aY) (fun _ _ _ h=>h) (Or.inr ⟨by rfl,rfl⟩) ?_ ?_
            rotate_left
            ·simp only [Act.put,List.setIfInBounds_toArray,List.set_cons_zero,List.set_cons_succ,eB,eH]
             rfl
            refine jR (i:=6) (N:=some 71) (v:=undef) (a':=?_) #[ab,ab,ab,ab,ab,ab,ab,ac,ac,ac,ac,ac,ac,ac,ac,ac,ac,ac,ac] rfl rfl (aU cO.out aY) (fun _ _ _ h=>h) (Or.inr ⟨by rfl,rfl⟩) ?_ ?_
            rotate_left
            ·simp only [Act.put,List.setIfInBounds_toArray,List.set_cons_zero,List.set_cons_succ,eB,eH]
             rfl
            refine jR (i:=7) (N:=some 72) (v:=undef) (a':=?_) #[ab,ab,ab,ab,ab,ab,ab,ab,ac,ac,ac,ac,ac,ac,ac,ac,ac,ac,ac] rfl rfl (aU cO.out aY) (fun _ _ _ h=>h) (Or.inr ⟨by rfl,rfl⟩) ?_ ?_
            rotate_left
            ·simp only [Act.put,List.setIfInBounds_toArray,List.set_cons_zero,List.set_cons_succ,eB,eH]
             rfl
            refine jR (i:=8) (N:=some 73) (v:=undef) (a':=?_) #[ab,ab,ab,ab,ab,ab,ab,ab,ab,ac,ac,ac,ac,ac,ac,ac,ac,ac,ac] rfl rfl (aU cO.out aY) (fun _ _ _ h=>h) (Or.inr ⟨by rfl,rfl⟩) ?_ ?_
            rotate_left
            ·simp only [Act.put,List.setIfInBounds_toArray,List.set_cons_zero,List.set_cons_succ,eB,eH]
             rfl
            refine dW (i:=9) (N:=some 74) (aU cO.out aY) ?_
            refine dW (i:=10) (N:=some 75) (aU cO.out aY) ?_
            refine jR (i:=11) (N:=some 76) (v:=undef) (a':=?_) #[ab,ab,ab,ab,ab,ab,ab,ab,ab,ab,ab,ab,ac,ac,ac,ac,ac,ac,ac] rfl rfl (aU cO.out aY) (fun _ _ _ h=>h) (Or.inr ⟨by rfl,rfl⟩) ?_ ?_
            rotate_left
            ·simp only [Act.put,List.setIfInBounds_toArray,List.set_cons_zero,List.set_cons_succ,eB,eH]
             rfl
            refine jR (i:=12) (N:=some 77) (v:=undef) (a':=?_) #[ab,ab,ab,ab,ab,ab,ab,ab,ab,ab,ab,ab,ab,ac,ac,ac,ac,ac,ac] rfl rfl (aU cO.out aY) (fun _ _ _ h=>h) (Or.inr ⟨by rfl,rfl⟩) ?_ ?_
            rotate_left
            ·simp only [Act.put,List.setIfInBounds_toArray,List.set_cons_zero,List.set_cons_succ,eB,eH]
             rfl
            refine jR (i:=13) (N:=some 78) (v:=undef) (a':=?_) #[ab,ab,ab,ab,ab,ab,ab,ab,ab,ab,ab,ab,ab,ab,ac,ac,ac,ac,ac] rfl rfl (aU cO.out aY) (fun _ _ _ h=>h) (Or.inr ⟨by rfl,rfl⟩) ?_ ?_
            rotate_left
            ·simp only [Act.put,List.setIfInBounds_toArray,List.set_cons_zero,List.set_cons_succ,eB,eH]
             rfl
            refine jR (i:=14) (N:=some 79) (v:=undef) (a':=?_) #[ab,ab,ab,ab,ab,ab,ab,ab,ab,ab,ab,ab,ab,ab,ab,ac,ac,ac,ac] rfl rfl (aU cO.out aY) (fun _ _ _ h=>h) (Or.inr ⟨by rfl,rfl⟩) ?_ ?_
            rotate_left
            ·simp only [Act.put,List.setIfInBounds_toArray,List.set_cons_zero,List.set_cons_succ,eB,eH]
             rfl
            refine jR (i:=15) (N:=some 80) (v:=undef) (a':=?_) #[ab,ab,ab,ab,ab,ab,ab,ab,ab,ab,ab,ab,ab,ab,ab,ab,ac,ac,ac] rfl rfl (aU cO.out aY) (fun _ _ _ h=>h) (Or.inr ⟨by rfl,rfl⟩) ?_ ?_
            rotate_left
            ·simp only [Act.put,List.setIfInBounds_toArray,List.set_cons_zero,List.set_cons_succ,eB,eH]
             rfl
            refine jR (i:=16) (N:=some 81) (v:=undef) (a':=?_) #[ab,ab,ab,ab,ab,ab,ab,ab,ab,ab,ab,ab,ab,ab,ab,ab,ab,ac,ac] rfl rfl (aU cO.out aY) (fun _ _ _ h=>h) (Or.inr ⟨by rfl,rfl⟩) ?_ ?_
            rotate_left
            ·simp only [Act.put,List.setIfInBounds_toArray,List.set_cons_zero,List.set_cons_succ,eB,eH]
             rfl
            refine jR (i:=17) (N:=some 82) (v:=undef) (a':=?_) #[ab,ab,ab,ab,ab,ab,ab,ab,ab,ab,ab,ab,ab,ab,ab,ab,ab,ab,ac] rfl rfl (aU cO.out aY) (fun _ _ _ h=>h) (Or.inr ⟨by rfl,rfl⟩) ?_ ?_
            rotate_left
            ·simp only [Act.put,List.setIfInBounds_toArray,List.set_cons_zero,List.set_cons_succ,eB,eH]
             rfl
            refine dW (i:=18) (N:=some 83) (aU cO.out aY) ?_
            refine lI (lN cO.out aY) ?_
            try go_wp2
            go_roundg k2
            case measure=>have:=af8.out;have:=Vo.out;omega
            case rel=>exact ⟨(wrap64 (gU+1)),mg,H',⟨by have:=af8.out;have:=Vo.out;omega⟩,⟨avY⟩,⟨fB⟩,⟨fB⟩,⟨fB⟩,⟨fB⟩,⟨fu⟩⟩
          ·rw [if_neg c45] at H
           have adH:decide (gU < (qm.length:Int)) = false:=decide_eq_false c45
           clear c45
           simp only [Option.some.injEq,Prod.mk.injEq] at H
           obtain ⟨rfl,rfl⟩:=H
           obtain ⟨aUw,aUx,aOA⟩:=Kd.jI qa.out
           subst aOA
           go_wp2
           go_ret2
           exact ⟨_,kL,by (with_reducible repeat (first|apply Kd.jf|apply Kd.iQ|apply Kd.iE));exact Kd.jC qa.out (fun _ hk=>trivial),fu⟩
       ·replace c34:=Bool.eq_false_iff.mpr c34
        subst c34
        have H1:(some (([]:List (dO)),5)) = some (r1,r2):=by rw [if_neg (show ¬ (false = true) by decide)] at H;exact H
        clear H
        have H:=H1
        clear H1
        simp only [Option.some.injEq,Prod.mk.injEq] at H
        obtain ⟨rfl,rfl⟩:=H
        have aiB:=mV.out
        have aiC:=mW.out
        have abD:=rP.out
        have abE:=rQ.out
        have ate:=rR.out
        have atf:=rT.out
        obtain ⟨apY,apZ,ap0,ap1,ap2,ap3,ap4,ap5,ap6,ap7,ap8,ap9,aqa,aqb,aqc,aqd,aqe,aqf⟩:=iH dZ.out
        have atq:=mY.out
        have atr:=mZ.out
        have att:=ng.out
        have atu:=ni.out
        obtain ⟨acd,ace,acf,acg,ach,aci,acj,ack,acm,acn,aco,acp,acr,acs⟩:=jb fe.out
        have atv:=uN.out
        have atw:=uO.out
        obtain ⟨acu,acv,acw,acx,acy,acz,acA,acB⟩:=gD gB.out
        go_wp2_with (first|((with_reducible refine aN (f:=102) rfl ?_);refine bT (some 47) rfl rfl Try.func102 aY rfl #[.agg #[U Z ah,U Z ai,U Z ax,U Z ay,U Z aK,U Z aH,U Z aJ,.slice dG aR.length dH,.slice dJ aC.length dI],.agg #[U Z aQ,U Z aM,U Z bf,U Z bg,U Z bD,U Z bE,U Z bF],.agg #[U Z bJ,U Z bK,U Z bM,U Z bN],U Z a3,U Z a5] rfl iG ?_;(with_reducible refine (aX.calls YK ah ai ax ay aK aH aJ _ _ aR _ _ aC aQ aM bf bg bD bE bF bJ bK bM bN a3 a5 qm false _ ?df ?dh ?dK ?dL A33.out).mono ?_);(case df=>repeat (first|exact (Kd.bz gq.out HB.out)|(with_reducible refine Kd.bA ?_ _)|(with_reducible refine Kd.bB ?_ _)|(with_reducible refine Kd.bQ ?_)));(case dh=>exact gu.out);(case dK=>repeat (first|exact (Kd.bz fH.out HB.out)|(with_reducible refine Kd.bA ?_ _)|(with_reducible refine Kd.bB ?_ _)|(with_reducible refine Kd.bQ ?_)));(case dL=>exact gz.out);rintro e w87 ⟨azS,rfl,ho0,hb⟩;refine ⟨_,rfl,?_⟩;have atW:=aa.mk (Kd.jH (Kd.qP ho0 (g:=Pn) (o:=.cells #[U Z bJ,U Z bK,U Z bM,U Z bN] 31 (0,0)) fB) (fJ fu));replace dZ:=bC dZ hb;replace fe:=bC fe hb;replace gB:=bC gB hb;replace iL:=bC iL hb;replace HB:=dw HB hb;(try clear hb);(try clear hb2);(try clear hk);(try clear hi);(try clear ho0)))
        go_ret2
        exact ⟨_,kL,N9,fu⟩
   ·replace c12:=Bool.eq_false_iff.mpr c12
    subst c12
    have H1:(some (([]:List (dO)),2)) = some (r1,r2):=by rw [if_neg (show ¬ (false = true) by decide)] at H;exact H
    clear H
    have H:=H1
    clear H1
    simp only [Option.some.injEq,Prod.mk.injEq] at H
    obtain ⟨rfl,rfl⟩:=H
    go_enter Try.func54,Try.ntmps54
    go_wp2_with (first|((with_reducible refine aG (N:=6) rfl ?_);refine az (by rfl) (N:=6) (by rfl) (cs:=#[U Z ah,U Z ai,U Z ax,U Z ay,U Z aK,U Z aH,U Z aJ,.slice dG aR.length dH,.slice dJ aC.length dI]) (t:=25) fM ?_;intro YI hg w88 hbox hb;have dZ:=aa.mk (hbox);have aiX:=dn HB hg;have aiY:=dn HB hg;replace HB:=dw HB hb;clear hb hbox hg)|((with_reducible refine aG (N:=7) rfl ?_);refine az (by rfl) (N:=7) (by rfl) (cs:=#[U Z aQ,U Z aM,U Z bf,U Z bg,U Z bD,U Z bE,U Z bF]) (t:=29) fM ?_;intro YJ hg w89 hbox hb;have fe:=aa.mk (hbox);have aiZ:=dn HB hg;have ai0:=dn HB hg;have mV:=iq dZ hg;have mW:=iw dZ hg;replace dZ:=bC dZ hb;replace HB:=dw HB hb;clear hb hbox hg)|((with_reducible refine aG (N:=8) rfl ?_);refine az (by rfl) (N:=8) (by rfl) (cs:=#[U Z bJ,U Z bK,U Z bM,U Z bN]) (t:=31) fM ?_;intro Pn hg w90 hbox hb;have gB:=aa.mk (hbox);have ai1:=dn HB hg;have ai2:=dn HB hg;have rP:=iq dZ hg;have rQ:=iw dZ hg;have mY:=iq fe hg;have mZ:=iw fe hg;replace dZ:=bC dZ hb;replace fe:=bC fe hb;replace HB:=dw HB hb;clear hb hbox hg)|((with_reducible refine aG (N:=10) rfl ?_);refine az (by rfl) (N:=10) (by rfl) (cs:=#[U Z jr,U Z iO,U Z mq,U Z mr,U Z mF,U Z mG]) (t:=81) fM ?_;intro oI hg w91 hbox hb;have iL:=aa.mk (hbox);have ai3:=dn HB hg;have ai4:=dn HB hg;have rR:=iq dZ hg;have rT:=iw dZ hg;have ng:=iq fe hg;have ni:=iw fe hg;have uN:=iq gB hg;have uO:=iw gB hg;replace dZ:=bC dZ hb;replace fe:=bC fe hb;replace gB:=bC gB hb;replace HB:=dw HB hb;clear hb hbox hg;have ayF:=mV.out;have ayG:=mW.out;have azZ:=rP.out;have az0:=rQ.out;have ayH:=rR.out;have ayI:=rT.out;obtain ⟨aqg,aqh,aqi,aqj,aqk,aql,aLB,aLC,aLD,aqm,aqn,aqo,aqp,aqr,aqs,aLE,aLF,aLG⟩:=iH dZ.out;have aR5:=mY.out;have aR6:=mZ.out;have ayJ:=ng.out;have ayK:=ni.out;obtain ⟨abF,abG,abH,abI,aqt,aqu,aqv,abJ,abK,abL,abM,aqw,aqx,aqy⟩:=jb fe.out)|((with_reducible refine aN (f:=79) rfl ?_);refine bT (some 20) rfl rfl Try.func79 aY rfl #[.agg #[U Z ah,U Z ai,U Z ax,U Z ay,U Z aK,U Z aH,U Z aJ,.slice dG aR.length dH,.slice dJ aC.length dI],.agg #[U Z aQ,U Z aM,U Z bf,U Z bg,U Z bD,U Z bE,U Z bF]] rfl iG ?_;(with_reducible refine (bX.calls k ah ai ax ay aK aH aJ _ _ aR _ _ aC aQ aM bf bg bD bE bF MI _ ?df ?dh ?dK ?dL A7.out).mono ?_);(case df=>repeat (first|exact (Kd.bz gq.out HB.out)|(with_reducible refine Kd.bA ?_ _)|(with_reducible refine Kd.bB ?_ _)|(with_reducible refine Kd.bQ ?_)));(case dh=>exact gu.out);(case dK=>repeat (first|exact (Kd.bz fH.out HB.out)|(with_reducible refine Kd.bA ?_ _)|(with_reducible refine Kd.bB ?_ _)|(with_reducible refine Kd.bQ ?_)));(case dL=>exact gz.out);rintro e w99 ⟨rfl,hb⟩;refine ⟨_,rfl,?_⟩;replace dZ:=bC dZ hb;replace fe:=bC fe hb;replace gB:=bC gB hb;replace iL:=bC iL hb;replace HB:=dw HB hb;(try clear hb);(try clear hb2);(try clear hk);(try clear hi);have aOB:=uN.out;have aOC:=uO.out;obtain ⟨az1,az2,az3,az4,az5,az6,az7,az8⟩:=gD gB.out)|((with_reducible refine aN (f:=80) rfl ?_);refine bT (some 27) rfl rfl Try.func80 aY rfl #[.agg #[U Z bJ,U Z bK,U Z bM,U Z bN],U Z a3] rfl iG ?_;(with_reducible refine (bI.calls bJ bK bM bN a3 KJ _ A9.out).mono ?_);rintro e az9 ⟨rfl,hb⟩;refine ⟨_,rfl,?_⟩;replace dZ:=bC dZ hb;replace fe:=bC fe hb;replace gB:=bC gB hb;replace iL:=bC iL hb;replace HB:=dw HB hb;(try clear hb);(try clear hb2);(try clear hk);(try clear hi);obtain ⟨aAa,aAb,aAc,aAd,aAe,aAf,aAg,aAh,aAi,aAj,aAk,aAl⟩:=DU iL.out)|((with_reducible refine aN (f:=95) rfl ?_);refine bT (some 33) rfl rfl Try.func95 aY rfl #[.agg #[U Z jr,U Z iO,U Z mq,U Z mr,U Z mF,U Z mG]] rfl iG ?_;(with_reducible refine (il.calls jr iO mq mr mF mG false _ A11.out).mono ?_);rintro e aUB ⟨rfl,hb⟩;refine ⟨_,rfl,?_⟩;replace dZ:=bC dZ hb;replace fe:=bC fe hb;replace gB:=bC gB hb;replace iL:=bC iL hb;replace HB:=dw HB hb;(try clear hb);(try clear hb2);(try clear hk);(try clear hi)))
    go_ret2
    exact ⟨_,kL,N9,fu⟩
  ·rw [if_neg c10] at H
   have Cn:(KJ == 0) = false:=beq_eq_false_iff_ne.mpr c10
   have aiW:(KJ != 0) = true:=bne_iff_ne.mpr c10
   replace H:=Option.bind_eq_some_iff.mp H
   obtain ⟨Tn,atY,H⟩:=H
   replace H:(some (([]:List (dO)),Tn)) = some (r1,r2):=H
   have aOD:=aa.mk atY
   clear atY
   simp only [Option.some.injEq,Prod.mk.injEq] at H
   obtain ⟨rfl,rfl⟩:=H
   go_enter Try.func54,Try.ntmps54
   go_wp2_with (first|((with_reducible refine aG (N:=6) rfl ?_);refine az (by rfl) (N:=6) (by rfl) (cs:=#[U Z ah,U Z ai,U Z ax,U Z ay,U Z aK,U Z aH,U Z aJ,.slice dG aR.length dH,.slice dJ aC.length dI]) (t:=25) fM ?_;intro YI hg aUC hbox hb;have dZ:=aa.mk (hbox);have aiX:=dn HB hg;have aiY:=dn HB hg;replace HB:=dw HB hb;clear hb hbox hg)|((with_reducible refine aG (N:=7) rfl ?_);refine az (by rfl) (N:=7) (by rfl) (cs:=#[U Z aQ,U Z aM,U Z bf,U Z bg,U Z bD,U Z bE,U Z bF]) (t:=29) fM ?_;intro YJ hg aOE hbox hb;have fe:=aa.mk (hbox);have aiZ:=dn HB hg;have ai0:=dn HB hg;have mV:=iq dZ hg;have mW:=iw dZ hg;replace dZ:=bC dZ hb;replace HB:=dw HB hb;clear hb hbox hg)|((with_reducible refine aG (N:=8) rfl ?_);refine az (by rfl) (N:=8) (by rfl) (cs:=#[U Z bJ,U Z bK,U Z bM,U Z bN]) (t:=31) fM ?_;intro Pn hg aOF hbox hb;have gB:=aa.mk (hbox);have ai1:=dn HB hg;have ai2:=dn HB hg;have rP:=iq dZ hg;have rQ:=iw dZ hg;have mY:=iq fe hg;have mZ:=iw fe hg;replace dZ:=bC dZ hb;replace fe:=bC fe hb;replace HB:=dw HB hb;clear hb hbox hg)|((with_reducible refine aG (N:=10) rfl ?_);refine az (by rfl) (N:=10) (by rfl) (cs:=#[U Z jr,U Z iO,U Z mq,U Z mr,U Z mF,U Z mG]) (t:=81) fM ?_;intro oI hg aAm hbox hb;have iL:=aa.mk (hbox);have ai3:=dn HB hg;have ai4:=dn HB hg;have rR:=iq dZ hg;have rT:=iw dZ hg;have ng:=iq fe hg;have ni:=iw fe hg;have uN:=iq gB hg;have uO:=iw gB hg;replace dZ:=bC dZ hb;replace fe:=bC fe hb;replace gB:=bC gB hb;replace HB:=dw HB hb;clear hb hbox hg;have aOG:=mV.out;have aOH:=mW.out;have aOI:=rP.out;have aOJ:=rQ.out;have aOK:=rR.out;have aOL:=rT.out;obtain ⟨aAn,aAo,aAp,aAq,aAr,aAs,aAt,aAu,aAv,aAw,aAx,aAy,aAz,aAA,aAB,aAC,aAD,aAE⟩:=iH dZ.out;have aOM:=mY.out;have aON:=mZ.out;have aOO:=ng.out;have aOP:=ni.out;obtain ⟨aAF,aAG,aAH,aAI,aAJ,aAK,aAL,aAM,aAN,aAO,aAP,aAQ,aAR,aAS⟩:=jb fe.out)|((with_reducible refine aN (f:=79) rfl ?_);refine bT (some 20) rfl rfl Try.func79 aY rfl #[.agg #[U Z ah,U Z ai,U Z ax,U Z ay,U Z aK,U Z aH,U Z aJ,.slice dG aR.length dH,.slice dJ aC.length dI],.agg #[U Z aQ,U Z aM,U Z bf,U Z bg,U Z bD,U Z bE,U Z bF]] rfl iG ?_;(with_reducible refine (bX.calls k ah ai ax ay aK aH aJ _ _ aR _ _ aC aQ aM bf bg bD bE bF MI _ ?df ?dh ?dK ?dL A7.out).mono ?_);(case df=>repeat (first|exact (Kd.bz gq.out HB.out)|(with_reducible refine Kd.bA ?_ _)|(with_reducible refine Kd.bB ?_ _)|(with_reducible refine Kd.bQ ?_)));(case dh=>exact gu.out);(case dK=>repeat (first|exact (Kd.bz fH.out HB.out)|(with_reducible refine Kd.bA ?_ _)|(with_reducible refine Kd.bB ?_ _)|(with_reducible refine Kd.bQ ?_)));(case dL=>exact gz.out);rintro e aOQ ⟨rfl,hb⟩;refine ⟨_,rfl,?_⟩;replace dZ:=bC dZ hb;replace fe:=bC fe hb;replace gB:=bC gB hb;replace iL:=bC iL hb;replace HB:=dw HB hb;(try clear hb);(try clear hb2);(try clear hk);(try clear hi);have av0:=uN.out;have av1:=uO.out;obtain ⟨aAT,aAU,aAV,aAW,aAX,aAY,aAZ,aA0⟩:=gD gB.out)|((with_reducible refine aN (f:=80) rfl ?_);refine bT (some 27) rfl rfl Try.func80 aY rfl #[.agg #[U Z bJ,U Z bK,U Z bM,U Z bN],U Z a3] rfl iG ?_;(with_reducible refine (bI.calls bJ bK bM bN a3 KJ _ A9.out).mono ?_);rintro e aUD ⟨rfl,hb⟩;refine ⟨_,rfl,?_⟩;replace dZ:=bC dZ hb;replace fe:=bC fe hb;replace gB:=bC gB hb;replace iL:=bC iL hb;replace HB:=dw HB hb;(try clear hb);(try clear hb2);(try clear hk);(try clear hi);obtain ⟨aA1,aA2,aA3,aA4,aA5,aA6,aA7,aA8⟩:=gD gB.out)|((with_reducible refine aN (f:=80) rfl ?_);refine bT (some 31) rfl rfl Try.func80 aY rfl #[.agg #[U Z bJ,U Z bK,U Z bM,U Z bN],U Z a3] rfl iG ?_;(with_reducible refine (bI.calls bJ bK bM bN a3 Tn _ aOD.out).mono ?_);rintro e aUE ⟨rfl,hb⟩;refine ⟨_,rfl,?_⟩;replace dZ:=bC dZ hb;replace fe:=bC fe hb;replace gB:=bC gB hb;replace iL:=bC iL hb;replace HB:=dw HB hb;(try clear hb);(try clear hb2);(try clear hk);(try clear hi)))
   go_ret2
   exact ⟨_,kL,N9,fu⟩
 ·rw [if_neg c8] at H
  have KI:(MI == 0) = false:=beq_eq_false_iff_ne.mpr c8
  have avP:(MI != 0) = true:=bne_iff_ne.mpr c8
  replace H:=Option.bind_eq_some_iff.mp H
  obtain ⟨YH,atZ,H⟩:=H
  replace H:(some (([]:List (dO)),YH)) = some (r1,r2):=H
  have aOR:=aa.mk atZ
  clear atZ
  simp only [Option.some.injEq,Prod.mk.injEq] at H
  obtain ⟨rfl,rfl⟩:=H
  go_enter Try.func54,Try.ntmps54
  go_wp2_with (first|((with_reducible refine aG (N:=6) rfl ?_);refine az (by rfl) (N:=6) (by rfl) (cs:=#[U Z ah,U Z ai,U Z ax,U Z ay,U Z aK,U Z aH,U Z aJ,.slice dG aR.length dH,.slice dJ aC.length dI]) (t:=25) fM ?_;intro YI hg aUF hbox hb;have dZ:=aa.mk (hbox);have aiX:=dn HB hg;have aiY:=dn HB hg;replace HB:=dw HB hb;clear hb hbox hg)|((with_reducible refine aG (N:=7) rfl ?_);refine az (by rfl) (N:=7) (by rfl) (cs:=#[U Z aQ,U Z aM,U Z bf,U Z bg,U Z bD,U Z bE,U Z bF]) (t:=29) fM ?_;intro YJ hg aUG hbox hb;have fe:=aa.mk (hbox);have aiZ:=dn HB hg;have ai0:=dn HB hg;have mV:=iq dZ hg;have mW:=iw dZ hg;replace dZ:=bC dZ hb;replace HB:=dw HB hb;clear hb hbox hg)|((with_reducible refine aG (N:=8) rfl ?_);refine az (by rfl) (N:=8) (by rfl) (cs:=#[U Z bJ,U Z bK,U Z bM,U Z bN]) (t:=31) fM ?_;intro Pn hg aOS hbox hb;have gB:=aa.mk (hbox);have ai1:=dn HB hg;have ai2:=dn HB hg;have rP:=iq dZ hg;have rQ:=iw dZ hg;have mY:=iq fe hg;have mZ:=iw fe hg;replace dZ:=bC dZ hb;replace fe:=bC fe hb;replace HB:=dw HB hb;clear hb hbox hg)|((with_reducible refine aG (N:=10) rfl ?_);refine az (by rfl) (N:=10) (by rfl) (cs:=#[U Z jr,U Z iO,U Z mq,U Z mr,U Z mF,U Z mG]) (t:=81) fM ?_;intro oI hg aUH hbox hb;have iL:=aa.mk (hbox);have ai3:=dn HB hg;have ai4:=dn HB hg;have rR:=iq dZ hg;have rT:=iw dZ hg;have ng:=iq fe hg;have ni:=iw fe hg;have uN:=iq gB hg;have uO:=iw gB hg;replace dZ:=bC dZ hb;replace fe:=bC fe hb;replace gB:=bC gB hb;replace HB:=dw HB hb;clear hb hbox hg;have aOT:=mV.out;have aOU:=mW.out;have aOV:=rP.out;have aOW:=rQ.out;have aOX:=rR.out;have aOY:=rT.out;obtain ⟨aA9,aBa,aBb,aBc,aBd,aBe,aBf,aBg,aBh,aBi,aBj,aBk,aBl,aBm,aBn,aBo,aBp,aBq⟩:=iH dZ.out;have aOZ:=mY.out;have aO0:=mZ.out;have aO1:=ng.out;have aO2:=ni.out;obtain ⟨aBr,aBs,aBt,aBu,aBv,aBw,aBx,aBy,aBz,aBA,aBB,aBC,aBD,aBE⟩:=jb fe.out)|((with_reducible refine aN (f:=79) rfl ?_);refine bT (some 20) rfl rfl Try.func79 aY rfl #[.agg #[U Z ah,U Z ai,U Z ax,U Z ay,U Z aK,U Z aH,U Z aJ,.slice dG aR.length dH,.slice dJ aC.length dI],.agg #[U Z aQ,U Z aM,U Z bf,U Z bg,U Z bD,U Z bE,U Z bF]] rfl iG ?_;(with_reducible refine (bX.calls k ah ai ax ay aK aH aJ _ _ aR _ _ aC aQ aM bf bg bD bE bF MI _ ?df ?dh ?dK ?dL A7.out).mono ?_);(case df=>repeat (first|exact (Kd.bz gq.out HB.out)|(with_reducible refine Kd.bA ?_ _)|(with_reducible refine Kd.bB ?_ _)|(with_reducible refine Kd.bQ ?_)));(case dh=>exact gu.out);(case dK=>repeat (first|exact (Kd.bz fH.out HB.out)|(with_reducible refine Kd.bA ?_ _)|(with_reducible refine Kd.bB ?_ _)|(with_reducible refine Kd.bQ ?_)));(case dL=>exact gz.out);rintro e aUI ⟨rfl,hb⟩;refine ⟨_,rfl,?_⟩;replace dZ:=bC dZ hb;replace fe:=bC fe hb;replace gB:=bC gB hb;replace iL:=bC iL hb;replace HB:=dw HB hb;(try clear hb);(try clear hb2);(try clear hk);(try clear hi);obtain ⟨aBF,aBG,aBH,aBI,aBJ,aBK,aBL,aBM,aBN,aBO,aBP,aBQ,aBR,aBS,aBT,aBU,aBV,aBW⟩:=iH dZ.out;obtain ⟨aBX,aBY,aBZ,aB0,aB1,aB2,aB3,aB4,aB5,aB6,aB7,aB8,aB9,aCa⟩:=jb fe.out)|((with_reducible refine aN (f:=79) rfl ?_);refine bT (some 24) rfl rfl Try.func79 aY rfl #[.agg #[U Z ah,U Z ai,U Z ax,U Z ay,U Z aK,U Z aH,U Z aJ,.slice dG aR.length dH,.slice dJ aC.length dI],.agg #[U Z aQ,U Z aM,U Z bf,U Z bg,U Z bD,U Z bE,U Z bF]] rfl iG ?_;(with_reducible refine (bX.calls k ah ai ax ay aK aH aJ _ _ aR _ _ aC aQ aM bf bg bD bE bF YH _ ?df ?dh ?dK ?dL aOR.out).mono ?_);(case df=>repeat (first|exact (Kd.bz gq.out HB.out)|(with_reducible refine Kd.bA ?_ _)|(with_reducible refine Kd.bB ?_ _)|(with_reducible refine Kd.bQ ?_)));(case dh=>exact gu.out);(case dK=>repeat (first|exact (Kd.bz fH.out HB.out)|(with_reducible refine Kd.bA ?_ _)|(with_reducible refine Kd.bB ?_ _)|(with_reducible refine Kd.bQ ?_)));(case dL=>exact gz.out);rintro e aUJ ⟨rfl,hb⟩;refine ⟨_,rfl,?_⟩;replace dZ:=bC dZ hb;replace fe:=bC fe hb;replace gB:=bC gB hb;replace iL:=bC iL hb;replace HB:=dw HB hb;(try clear hb);(try clear hb2);(try clear hk);(try clear hi)))
  go_ret2
  exact ⟨_,kL,N9,fu⟩
end Go.Proofs.Ytmhaiihjfgfaoaa.Pr
end
