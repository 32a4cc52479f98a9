import Derived.Test.YtmhaiihjfgfaoaaGzGliderReaches3
import Derived.Test.YtmhaiihjfgfaoaaGzGliderReaches15
import Derived.Test.YtmhaiihjfgfaoaaGzGliderReaches18
import Derived.Test.YtmhaiihjfgfaoaaGzGliderReaches25
import Derived.Test.YtmhaiihjfgfaoaaGzGliderReaches22
open Go.Value renaming int → U
open Go.IntKind renaming i64 → Z
open Bool renaming true → ab, false → ac
section
namespace Go.Proofs.Ytmhaiihjfgfaoaa.Pr
open Go.RowKit Go.Proofs.YtmhaiihjfgfaoaaW.PrintWords Go.Proofs.YtmhaiihjfgfaoaaW.PrintLast Go.Proofs.YtmhaiihjfgfaoaaW.PrintMore
attribute [local go_sem] eD eF fD fE eG
set_option linter.unusedVariables false
set_option linter.unusedSimpArgs false
mutual
def aA.l0:Nat→Int→List (dO)→Bool→Int→Int→Int→Int→Int→Int→Int→Int→List Bool→List (oV)→Int→Int→Int→Int→Int→Int→Int→Int→Int→Int→Int→Option (Int)
 |0,_,_,_,_,_,_,_,_,_,_,_,_,_,_,_,_,_,_,_,_,_,_,_,_=>none
 |k+1,x3,x4,TD,wB,zh,zi,zk,zl,zm,vW,zn,zo,zq,zt,uk,zu,zw,zx,zy,zz,AX,AY,AZ,Ba=>if wB < (x4.length:Int) then ((dx.f k zh zi zk zl zm vW zn zo zq zt uk zu zw zx zy zz AX AY AZ Ba (wrap64 (x3+(wrap64 (wB*uk))))).bind fun aqA=>(if aqA = true then (aA.l1 k x3 x4 TD wB 0 zh zi zk zl zm vW zn zo zq zt uk zu zw zx zy zz AX AY AZ Ba) else (some 5))) else (if TD = true then (some 16) else (some 0))
def aA.l1:Nat→Int→List (dO)→Bool→Int→Int→Int→Int→Int→Int→Int→Int→Int→List Bool→List (oV)→Int→Int→Int→Int→Int→Int→Int→Int→Int→Int→Int→Option (Int)
 |0,_,_,_,_,_,_,_,_,_,_,_,_,_,_,_,_,_,_,_,_,_,_,_,_,_=>none
 |k+1,x3,x4,TD,wB,xe,zh,zi,zk,zl,zm,vW,zn,zo,zq,zt,uk,zu,zw,zx,zy,zz,AX,AY,AZ,Ba=>if xe < 9 then (aA.l2 k x3 x4 TD wB xe 0 zh zi zk zl zm vW zn zo zq zt uk zu zw zx zy zz AX AY AZ Ba) else (if 0≤wB then (if wB < (x4.length:Int) then (aA.l0 k x3 x4 TD (wrap64 (wB+1)) zh zi zk zl zm vW zn zo zq zt uk zu zw zx zy zz ((bq x4 wB).f0.f0) ((bq x4 wB).f0.f1) ((bq x4 wB).f1.f0) ((bq x4 wB).f1.f1)) else (none)) else (none))
def aA.l2:Nat→Int→List (dO)→Bool→Int→Int→Int→Int→Int→Int→Int→Int→Int→Int→List Bool→List (oV)→Int→Int→Int→Int→Int→Int→Int→Int→Int→Int→Int→Option (Int)
 |0,_,_,_,_,_,_,_,_,_,_,_,_,_,_,_,_,_,_,_,_,_,_,_,_,_,_=>none
 |k+1,x3,x4,TD,wB,xe,KZ,zh,zi,zk,zl,zm,vW,zn,zo,zq,zt,uk,zu,zw,zx,zy,zz,AX,AY,AZ,Ba=>if KZ < vW then ((cZ.f k zh zi zk zl zm vW zn zo zq zt uk zu zw zx zy zz AX AY AZ Ba (wrap64 (x3+(wrap64 (wB*uk)))) xe KZ).bind fun adJ=>(if TD = true then (aA.l2 k x3 x4 true wB xe (wrap64 (KZ+1)) zh zi zk zl zm vW zn zo zq zt uk zu zw zx zy zz AX AY AZ Ba) else (if 0≤wB then (if wB < (x4.length:Int) then ((jl.f k adJ.1 adJ.2.1 adJ.2.2.1 adJ.2.2.2 ((bq x4 wB).f0.f0) ((bq x4 wB).f0.f1) ((bq x4 wB).f1.f0) ((bq x4 wB).f1.f1)).bind fun WB=>(aA.l2 k x3 x4 (WB != 2) wB xe (wrap64 (KZ+1)) zh zi zk zl zm vW zn zo zq zt uk zu zw zx zy zz AX AY AZ Ba)) else (none)) else (none)))) else (aA.l1 k x3 x4 TD wB (wrap64 (xe+1)) zh zi zk zl zm vW zn zo zq zt uk zu zw zx zy zz AX AY AZ Ba)
end
def aA.f (k:Nat) (ah:Int) (ai:Int) (ax:Int) (ay:Int) (aK:Int) (aH:Int) (aJ:Int) (aR:List Bool) (aC:List (oV)) (aQ:Int) (aM:Int) (bf:Int) (bg:Int) (bD:Int) (bE:Int) (bF:Int) (bJ:Int) (bK:Int) (bM:Int) (bN:Int) (a3:Int) (l4:List (dO)):Option (Int):=(bX.f k ah ai ax ay aK aH aJ aR aC aQ aM bf bg bD bE bF).bind fun MR=>(if MR = 0 then ((bI.f bJ bK bM bN a3).bind fun KL=>(if KL = 0 then ((cz.f k l4).bind fun Kb=>(if Kb = 0 then (aA.l0 k a3 l4 false 0 ah ai ax ay aK aH aJ aR aC aQ aM bf bg bD bE bF bJ bK bM bN) else ((cz.f k l4).bind fun PT=>(some PT)))) else ((bI.f bJ bK bM bN a3).bind fun Tp=>(some Tp)))) else ((bX.f k ah ai ax ay aK aH aJ aR aC aQ aM bf bg bD bE bF).bind fun YM=>(some YM)))
def aA.T20:Bool × List (List Nat × List Nat):=(true,[([],[]),([0],[0]),([1],[1]),([1],[1]),([1],[1]),([3,4,1],[1,3,4]),([5,1],[1,5]),([2,6,1,1],[1,2,6]),([7,1],[1,7]),([1,8],[1,8]),([9,7,0,1,2,3,4,5,6,7,8,9],[0,9])])
def aA.B20:List Nat:=[0,1,3,3,3,27,59,127,255,511,1023]
theorem aA.at6:qX .any (opsOf Try.f55 20) = aA.T20:=by kernel_rfl
theorem aA.ai8:ou aA.T20.2 aA.B20 = true:=by kernel_rfl
set_option maxHeartbeats 8000000 in
set_option maxRecDepth 100000 in
theorem aA.calls (k:Nat) (ah:Int) (ai:Int) (ax:Int) (ay:Int) (aK:Int) (aH:Int) (aJ:Int) (dG:Option Addr) (dH:Nat) (aR:List Bool) (dJ:Option Addr) (dI:Nat) (aC:List (oV)) (aQ:Int) (aM:Int) (bf:Int) (bg:Int) (bD:Int) (bE:Int) (bF:Int) (bJ:Int) (bK:Int) (bM:Int) (bN:Int) (a3:Int) (A4:Option Addr) (c4:Nat) (l4:List (dO)) (r:Int) (w:World) (iU:Kd.C Kd.bool w dG aR.length aR) (iV:aR.length≤dH) (iW:Kd.C DD w dJ aC.length aC) (iX:aC.length≤dI) (hr4:Kd.C Iy w A4 l4.length l4) (hc4:l4.length≤c4) (h:aA.f k ah ai ax ay aK aH aJ aR aC aQ aM bf bg bD bE bF bJ bK bM bN a3 l4 = some r):
 Calls Try.prog 55 #[.agg #[U Z ah,U Z ai,U Z ax,U Z ay,U Z aK,U Z aH,U Z aJ,.slice dG aR.length dH,.slice dJ aC.length dI],.agg #[U Z aQ,U Z aM,U Z bf,U Z bg,U Z bD,U Z bE,U Z bF],.agg #[U Z bJ,U Z bK,U Z bM,U Z bN],U Z a3,.slice A4 l4.length c4] w fun e w'=>e = .returned (U Z r)∧Below w.heap.size w w':=by
 have zR:=Try.underlying25
 have Cb:=Try.underlying29
 have oP:=Try.underlying31
 have SH:=Try.underlying33
 have gq:=aa.mk iU
 have gu:=aa.mk iV
 clear iU iV
 have fH:=aa.mk iW
 have gz:=aa.mk iX
 clear iW iX
 have HR4:=aa.mk hr4
 have HC4:=aa.mk hc4
 clear hr4 hc4
 have HB:=aa.mk (Below.refl w.heap.size w)
 have H:((bX.f k ah ai ax ay aK aH aJ aR aC aQ aM bf bg bD bE bF).bind fun MR=>(if MR = 0 then ((bI.f bJ bK bM bN a3).bind fun KL=>(if KL = 0 then ((cz.f k l4).bind fun Kb=>(if Kb = 0 then (aA.l0 k a3 l4 false 0 ah ai ax ay aK aH aJ aR aC aQ aM bf bg bD bE bF bJ bK bM bN) else ((cz.f k l4).bind fun PT=>(some PT)))) else ((bI.f bJ bK bM bN a3).bind fun Tp=>(some Tp)))) else ((bX.f k ah ai ax ay aK aH aJ aR aC aQ aM bf bg bD bE bF).bind fun YM=>(some YM)))) = some r:=h
 clear h
 replace H:=Option.bind_eq_some_iff.mp H
 obtain ⟨MR,La,H⟩:=H
 replace H:(if MR = 0 then ((bI.f bJ bK bM bN a3).bind fun KL=>(if KL = 0 then ((cz.f k l4).bind fun Kb=>(if Kb = 0 then (aA.l0 k a3 l4 false 0 ah ai ax ay aK aH aJ aR aC aQ aM bf bg bD bE bF bJ bK bM bN) else ((cz.f k l4).bind fun PT=>(some PT)))) else ((bI.f bJ bK bM bN a3).bind fun Tp=>(some Tp)))) else ((bX.f k ah ai ax ay aK aH aJ aR aC aQ aM bf bg bD bE bF).bind fun YM=>(some YM))) = some r:=H
 have A6:=aa.mk La
 clear La
 by_cases c7:MR = 0
 ·rw [if_pos c7] at H
  have Kw:(MR == 0) = true:=beq_iff_eq.mpr c7
  have Wy:(MR != 0) = false:=bne_eq_false_iff_eq.mpr c7
  clear c7
  replace H:=Option.bind_eq_some_iff.mp H
  obtain ⟨KL,TN,H⟩:=H
  replace H:(if KL = 0 then ((cz.f k l4).bind fun Kb=>(if Kb = 0 then (aA.l0 k a3 l4 false 0 ah ai ax ay aK aH aJ aR aC aQ aM bf bg bD bE bF bJ bK bM bN) else ((cz.f k l4).bind fun PT=>(some PT)))) else ((bI.f bJ bK bM bN a3).bind fun Tp=>(some Tp))) = some r:=H
  have A8:=aa.mk TN
  clear TN
  by_cases c9:KL = 0
  ·rw [if_pos c9] at H
   have LM:(KL == 0) = true:=beq_iff_eq.mpr c9
   have aaH:(KL != 0) = false:=bne_eq_false_iff_eq.mpr c9
   clear c9
   replace H:=Option.bind_eq_some_iff.mp H
   obtain ⟨Kb,FJ,H⟩:=H
   replace H:(if Kb = 0 then (aA.l0 k a3 l4 false 0 ah ai ax ay aK aH aJ aR aC aQ aM bf bg bD bE bF bJ bK bM bN) else ((cz.f k l4).bind fun PT=>(some PT))) = some r:=H
   have TH:=aa.mk FJ
   clear FJ
   by_cases c11:Kb = 0
   ·rw [if_pos c11] at H
    have GN:(Kb == 0) = true:=beq_iff_eq.mpr c11
    have adK:(Kb != 0) = false:=bne_eq_false_iff_eq.mpr c11
    clear c11
    have H':=aa.mk H
    clear H
    go_enter Try.func55,Try.ntmps55
    go_wp2_with (first|((with_reducible refine aG (N:=5) rfl ?_);refine az (by rfl) (N:=5) (by rfl) (cs:=#[U Z ah,U Z ai,U Z ax,U Z ay,U Z aK,U Z aH,U Z aJ,.slice dG aR.length dH,.slice dJ aC.length dI]) (t:=25) fM ?_;intro Po hg Nv hbox hb;have ek:=aa.mk (hbox);have ai9:=dn HB hg;have aja:=dn HB hg;replace HB:=dw HB hb;clear hb hbox hg)|((with_reducible refine aG (N:=6) rfl ?_);refine az (by rfl) (N:=6) (by rfl) (cs:=#[U Z aQ,U Z aM,U Z bf,U Z bg,U Z bD,U Z bE,U Z bF]) (t:=29) fM ?_;intro Pp hg TA hbox hb;have fC:=aa.mk (hbox);have ajb:=dn HB hg;have ajc:=dn HB hg;have nX:=iq ek hg;have nY:=iw ek hg;replace ek:=bC ek hb;replace HB:=dw HB hb;clear hb hbox hg)|((with_reducible refine aG (N:=7) rfl ?_);refine az (by rfl) (N:=7) (by rfl) (cs:=#[U Z bJ,U Z bK,U Z bM,U Z bN]) (t:=31) fM ?_;intro Pq hg w14 hbox hb;have gG:=aa.mk (hbox);have ajd:=dn HB hg;have aje:=dn HB hg;have nk:=iq ek hg;have nu:=iw ek hg;have nZ:=iq fC hg;have oh:=iw fC hg;replace ek:=bC ek hb;replace fC:=bC fC hb;replace HB:=dw HB hb;clear hb hbox hg;have Yk:=nX.out;have Yl:=nY.out;have TL:=nk.out;have TM:=nu.out;obtain ⟨lW,lX,nM,nN,tN,tO,yK,CW,CX,lY,lZ,nO,nP,tQ,tT,yL,CY,CZ⟩:=iH ek.out;have X3:=nZ.out;have X4:=oh.out;obtain ⟨pI,pJ,qF,qG,tV,tX,yM,pK,pM,qH,qI,tY,tZ,yN⟩:=jb fC.out)|((with_reducible refine aN (f:=79) rfl ?_);refine bT (some 18) rfl rfl Try.func79 aY rfl #[.agg #[U Z ah,U Z ai,U Z ax,U Z ay,U Z aK,U Z aH,U Z aJ,.slice dG aR.length dH,.slice dJ aC.length dI],.agg #[U Z aQ,U Z aM,U Z bf,U Z bg,U Z bD,U Z bE,U Z bF]] rfl iG ?_;(with_reducible refine (bX.calls k ah ai ax ay aK aH aJ _ _ aR _ _ aC aQ aM bf bg bD bE bF MR _ ?df ?dh ?dK ?dL A6.out).mono ?_);(case df=>repeat (first|exact (Kd.bz gq.out HB.out)|(with_reducible refine Kd.bA ?_ _)|(with_reducible refine Kd.bB ?_ _)|(with_reducible refine Kd.bQ ?_)));(case dh=>exact gu.out);(case dK=>repeat (first|exact (Kd.bz fH.out HB.out)|(with_reducible refine Kd.bA ?_ _)|(with_reducible refine Kd.bB ?_ _)|(with_reducible refine Kd.bQ ?_)));(case dL=>exact gz.out);rintro e GZ ⟨rfl,hb⟩;refine ⟨_,rfl,?_⟩;replace ek:=bC ek hb;replace fC:=bC fC hb;replace gG:=bC gG hb;replace HB:=dw HB hb;(try clear hb);(try clear hb2);(try clear hk);(try clear hi);obtain ⟨pO,pQ,uf,ug,pR,pU,uh,ui⟩:=gD gG.out)|((with_reducible refine aN (f:=80) rfl ?_);refine bT (some 25) rfl rfl Try.func80 aY rfl #[.agg #[U Z bJ,U Z bK,U Z bM,U Z bN],U Z a3] rfl iG ?_;(with_reducible refine (bI.calls bJ bK bM bN a3 KL _ A8.out).mono ?_);rintro e w22 ⟨rfl,hb⟩;refine ⟨_,rfl,?_⟩;replace ek:=bC ek hb;replace fC:=bC fC hb;replace gG:=bC gG hb;replace HB:=dw HB hb;(try clear hb);(try clear hb2);(try clear hk);(try clear hi))|((with_reducible refine aN (f:=90) rfl ?_);refine bT (some 31) rfl rfl Try.func90 aY rfl #[.slice A4 l4.length c4] rfl iG ?_;(with_reducible refine (cz.calls k _ _ l4 Kb _ ?df ?dh TH.out).mono ?_);(case df=>repeat (first|exact (Kd.bz HR4.out HB.out)|(with_reducible refine Kd.bA ?_ _)|(with_reducible refine Kd.bB ?_ _)|(with_reducible refine Kd.bQ ?_)));(case dh=>exact HC4.out);rintro e w23 ⟨rfl,hb⟩;refine ⟨_,rfl,?_⟩;replace ek:=bC ek hb;replace fC:=bC fC hb;replace gG:=bC gG hb;replace HB:=dw HB hb;(try clear hb);(try clear hb2);(try clear hk);(try clear hi)))
    go_loopg [11,12] k (fun kq v11 v12 w'=>∃ (RO:Bool) (cK:Int) (iD:Int) (gZ:Int) (gN:Int) (gL:Int),v11 = .bool RO∧v12 = U Z cK∧aa (aA.l0 kq a3 l4 RO cK ah ai ax ay aK aH aJ aR aC aQ aM bf bg bD bE bF iD gZ gN gL = some r)∧aa (kq≤k)∧aa (w'.heap[Po]? = some (.cells #[U Z ah,U Z ai,U Z ax,U Z ay,U Z aK,U Z aH,U Z aJ,(.slice dG aR.length dH),(.slice dJ aC.length dI)] 25 (0,0)))∧aa (w'.heap[Pp]? = some (.cells #[U Z aQ,U Z aM,U Z bf,U Z bg,U Z bD,U Z bE,U Z bF] 29 (0,0)))∧aa (w'.heap[Pq]? = some (.cells #[U Z iD,U Z gZ,U Z gN,U Z gL] 31 (0,0)))∧aa (Below w.heap.size w w'))
    case atStart=>exact ⟨(false),(0),(bJ),(bK),(bM),(bN),mg,mg,H',⟨Nat.le_refl _⟩,⟨fB⟩,⟨fB⟩,⟨fB⟩,⟨fu⟩⟩
    case round =>
     clear H'
     try clear c1
     try clear p2
     try clear c4
     try clear c5
     try clear c7
     try clear Kw
     try clear Wy
     try clear c8
     try clear c9
     try clear LM
     try clear aaH
     try clear c11
     try clear GN
     try clear adK
     try clear c15
     try clear c16
     try clear c18
     try clear lW lX nM nN tN tO yK CW CX
     try clear pI pJ qF qG tV tX yM
     try clear pO pQ uf ug
     try clear lY lZ nO nP tQ tT yL CY CZ
     try clear pK pM qH qI tY tZ yN
     try clear pR pU uh ui
     obtain ⟨RO,cK,iD,gZ,gN,gL,rfl,rfl,HA,G5,ek,fC,gG,HB⟩:=hrel
     cases gk with
     |zero=>exact absurd HA.out (by simp [aA.l0])
     |succ k1 =>
      have H:=HA.out
      clear HA
      simp only [aA.l0] at H
      by_cases c24:cK < (l4.length:Int)
      ·rw [if_pos c24] at H
       have Ph:decide (cK < (l4.length:Int)) = true:=decide_eq_true c24
       clear c24
       replace H:=Option.bind_eq_some_iff.mp H
       obtain ⟨aqA,ais,H⟩:=H
       replace H:(if aqA = true then (aA.l1 k1 a3 l4 RO cK 0 ah ai ax ay aK aH aJ aR aC aQ aM bf bg bD bE bF iD gZ gN gL) else (some 5)) = some r:=H
       have A25:=aa.mk ais
       clear ais
       by_cases K3:aqA = true
       ·subst K3
        have H1:(aA.l1 k1 a3 l4 RO cK 0 ah ai ax ay aK aH aJ aR aC aQ aM bf bg bD bE bF iD gZ gN gL) = some r:=by rw [if_pos rfl] at H;exact H
        clear H
        have H:=H1
        clear H1
        have H':=aa.mk H
        clear H
        have aiv:=nX.out
        have aiw:=nY.out
        have ahS:=nk.out
        have ahT:=nu.out
        obtain ⟨qB,qC,sV,sW,vN,vO,CP,FL,FM,qD,qE,sZ,tq,vP,vQ,CQ,FN,FO⟩:=iH ek.out
        have aix:=nZ.out
        have aiy:=oh.out
        obtain ⟨Mv,Mw,Mx,MB,QH,QI,QJ,MC,ME,MF,MG,QK,QL,QM⟩:=jb fC.out
        obtain ⟨IX,IY,IZ,I1,I4,I5,I6,I7⟩:=gD gG.out
        go_wp2_with (first|((with_reducible refine aN (f:=105) rfl ?_);refine bT (some 50) rfl rfl Try.func105 aY rfl #[.agg #[U Z ah,U Z ai,U Z ax,U Z ay,U Z aK,U Z aH,U Z aJ,.slice dG aR.length dH,.slice dJ aC.length dI],.agg #[U Z aQ,U Z aM,U Z bf,U Z bg,U Z bD,U Z bE,U Z bF],.agg #[U Z iD,U Z gZ,U Z gN,U Z gL],U Z (wrap64 (a3+(wrap64 (cK*aM))))] rfl iG ?_;(with_reducible refine (dx.calls k1 ah ai ax ay aK aH aJ _ _ aR _ _ aC aQ aM bf bg bD bE bF iD gZ gN gL (wrap64 (a3+(wrap64 (cK*aM)))) true _ ?df ?dh ?dK ?dL A25.out).mono ?_);(case df=>repeat (first|exact (Kd.bz gq.out HB.out)|(with_reducible refine Kd.bA ?_ _)|(with_reducible refine Kd.bB ?_ _)|(with_reducible refine Kd.bQ ?_)));(case dh=>exact gu.out);(case dK=>repeat (first|exact (Kd.bz fH.out HB.out)|(with_reducible refine Kd.bA ?_ _)|(with_reducible refine Kd.bB ?_ _)|(with_reducible refine Kd.bQ ?_)));(case dL=>exact gz.out);rintro e w33 ⟨rfl,hb⟩;refine ⟨_,rfl,?_⟩;replace ek:=bC ek hb;replace fC:=bC fC hb;replace gG:=bC gG hb;replace HB:=dw HB hb;(try clear hb);(try clear hb2);(try clear hk);(try clear hi)))
        go_loopg [11,13] k1 (fun kq v11 v13 w'=>∃ (YN:Bool) (sF:Int),v11 = .bool YN∧v13 = U Z sF∧aa (aA.l1 kq a3 l4 YN cK sF ah ai ax ay aK aH aJ aR aC aQ aM bf bg bD bE bF iD gZ gN gL = some r)∧aa (kq≤k1)∧aa (w'.heap[Po]? = some (.cells #[U Z ah,U Z ai,U Z ax,U Z ay,U Z aK,U Z aH,U Z aJ,(.slice dG aR.length dH),(.slice dJ aC.length dI)] 25 (0,0)))∧aa (w'.heap[Pp]? = some (.cells #[U Z aQ,U Z aM,U Z bf,U Z bg,U Z bD,U Z bE,U Z bF] 29 (0,0)))∧aa (w'.heap[Pq]? = some (.cells #[U Z iD,U Z gZ,U Z gN,U Z gL] 31 (0,0)))∧aa (Below w.heap.size w w'))
        case atStart=>exact ⟨(RO),(0),mg,mg,H',⟨Nat.le_refl _⟩,⟨fB⟩,⟨fB⟩,⟨fB⟩,⟨fu⟩⟩
        case round =>
         clear H'
         try clear c1
         try clear c2
         try clear p2
         try clear c3
         try clear c4
         try clear c5
         try clear p6
         try clear c7
         try clear Kw
         try clear Wy
         try clear c8
         try clear c9
         try clear LM
         try clear aaH
         try clear c10
         try clear c11
         try clear GN
         try clear adK
         try clear c15
         try clear c16
         try clear c18
         try clear c24
         try clear Ph
         try clear K3
         try clear Zx
         try clear c28
         try clear c30
         try clear lW lX nM nN tN tO yK CW CX
         try clear pI pJ qF qG tV tX yM
         try clear pO pQ uf ug
         try clear qB qC sV sW vN vO CP FL FM
         try clear Mv Mw Mx MB QH QI QJ
         try clear IX IY IZ I1
         try clear lY lZ nO nP tQ tT yL CY CZ
         try clear pK pM qH qI tY tZ yN
         try clear pR pU uh ui
         try clear qD qE sZ tq vP vQ CQ FN FO
         try clear MC ME MF MG QK QL QM
         try clear I4 I5 I6 I7
         try clear p2
         obtain ⟨YN,sF,rfl,rfl,HA,Vo,ek,fC,gG,HB⟩:=hrel
         cases gk with
         |zero=>exact absurd HA.out (by simp [aA.l1])
         |succ k2 =>
          have H:=HA.out
          clear HA
          simp only [aA.l1] at H
          by_cases c34:sF < 9
          ·rw [if_pos c34] at H
           have at7:decide (sF < 9) = true:=decide_eq_true c34
           clear c34
           have H':=aa.mk H
           clear H
           go_wp2
           go_loopg [11,14] k2 (fun kq v11 v14 w'=>∃ (Ue:Bool) (fF:Int),v11 = .bool Ue∧v14 = U Z fF∧aa (aA.l2 kq a3 l4 Ue cK sF fF ah ai ax ay aK aH aJ aR aC aQ aM bf bg bD bE bF iD gZ gN gL = some r)∧aa (kq≤k2)∧aa (w'.heap[Po]? = some (.cells #[U Z ah,U Z ai,U Z ax,U Z ay,U Z aK,U Z aH,U Z aJ,(.slice dG aR.length dH),(.slice dJ aC.length dI)] 25 (0,0)))∧aa (w'.heap[Pp]? = some (.cells #[U Z aQ,U Z aM,U Z bf,U Z bg,U Z bD,U Z bE,U Z bF] 29 (0,0)))∧aa (w'.heap[Pq]? = some (.cells #[U Z iD,U Z gZ,U Z gN,U Z gL] 31 (0,0)))∧aa (Below w.heap.size w w'))
           case atStart=>exact ⟨(YN),(0),mg,mg,H',⟨Nat.le_refl _⟩,⟨fB⟩,⟨fB⟩,⟨fB⟩,⟨fu⟩⟩
           case round =>
            clear H'
            try clear c1
            try clear c2
            try clear p2
            try clear c3
            try clear c4
            try clear c5
            try clear p6
            try clear c7
            try clear Kw
            try clear Wy
            try clear c8
            try clear c9
            try clear LM
            try clear aaH
            try clear c10
            try clear c11
            try clear GN
            try clear adK
            try clear c15
            try clear c16
            try clear c18
            try clear c24
            try clear Ph
            try clear K3
            try clear Zx
            try clear c28
            try clear c30
            try clear c34
            try clear at7
            try clear lW lX nM nN tN tO yK CW CX
            try clear pI pJ qF qG tV tX yM
            try clear pO pQ uf ug
            try clear qB qC sV sW vN vO CP FL FM
            try clear Mv Mw Mx MB QH QI QJ
            try clear IX IY IZ I1
            try clear lY lZ nO nP tQ tT yL CY CZ
            try clear pK pM qH qI tY tZ yN
            try clear pR pU uh ui
            try clear qD qE sZ tq vP vQ CQ FN FO
            try clear MC ME MF MG QK QL QM
            try clear I4 I5 I6 I7
            try clear p2
            try clear p6
            obtain ⟨Ue,fF,rfl,rfl,HA,Yd,ek,fC,gG,HB⟩:=hrel
            cases gk with
            |zero=>exact absurd HA.out (by simp [aA.l2])
            |succ k3 =>
             have H:=HA.out
             clear HA
             simp only [aA.l2] at H
             by_cases c35:fF < aH
             ·rw [if_pos c35] at H
              have aCf:decide (fF < aH) = true:=decide_eq_true c35
              clear c35
              replace H:=Option.bind_eq_some_iff.mp H
              obtain ⟨⟨xN,zY,BO,DV⟩,aCg,H⟩:=H
              replace H:(if Ue = true then (aA.l2 k3 a3 l4 true cK sF (wrap64 (fF+1)) ah ai ax ay aK aH aJ aR aC aQ aM bf bg bD bE bF iD gZ gN gL) else (if 0≤cK then (if cK < (l4.length:Int) then ((jl.f k3 xN zY BO DV ((bq l4 cK).f0.f0) ((bq l4 cK).f0.f1) ((bq l4 cK).f1.f0) ((bq l4 cK).f1.f1)).bind fun WB=>(aA.l2 k3 a3 l4 (WB != 2) cK sF (wrap64 (fF+1)) ah ai ax ay aK aH aJ aR aC aQ aM bf bg bD bE bF iD gZ gN gL)) else (none)) else (none))) = some r:=H
              have A36:=aa.mk aCg
              clear aCg
              by_cases c37:Ue = true
              ·subst c37
               have H1:(aA.l2 k3 a3 l4 true cK sF (wrap64 (fF+1)) ah ai ax ay aK aH aJ aR aC aQ aM bf bg bD bE bF iD gZ gN gL) = some r:=by rw [if_pos rfl] at H;exact H
               clear H
               have H:=H1
               clear H1
               have H':=aa.mk H
               clear H
               have aii:=nX.out
               have aij:=nY.out
               have Yn:=nk.out
               have Yo:=nu.out
               obtain ⟨Wt,Wu,adx,ady,aqB,aqC,aqD,aLH,aLI,Wv,Ww,adz,adA,aqE,aqF,aqG,aLJ,aLK⟩:=iH ek.out
               have aCh:=nZ.out
               have aCi:=oh.out
               obtain ⟨WC,WE,adL,adM,adN,adO,adP,WG,WH,adQ,adR,adS,adT,adU⟩:=jb fC.out
               obtain ⟨LB,LC,LD,LF,LG,LH,LJ,LK⟩:=gD gG.out
               try go_wp2_with (first|((with_reducible refine aN (f:=106) rfl ?_);refine bT (some 74) rfl rfl Try.func106 aY rfl #[.agg #[U Z ah,U Z ai,U Z ax,U Z ay,U Z aK,U Z aH,U Z aJ,.slice dG aR.length dH,.slice dJ aC.length dI],.agg #[U Z aQ,U Z aM,U Z bf,U Z bg,U Z bD,U Z bE,U Z bF],.agg #[U Z iD,U Z gZ,U Z gN,U Z gL],U Z (wrap64 (a3+(wrap64 (cK*aM)))),.agg #[U Z sF,U Z fF]] rfl iG ?_;(with_reducible refine (cZ.calls k3 ah ai ax ay aK aH aJ _ _ aR _ _ aC aQ aM bf bg bD bE bF iD gZ gN gL (wrap64 (a3+(wrap64 (cK*aM)))) sF fF xN zY BO DV _ ?df ?dh ?dK ?dL A36.out).mono ?_);(case df=>repeat (first|exact (Kd.bz gq.out HB.out)|(with_reducible refine Kd.bA ?_ _)|(with_reducible refine Kd.bB ?_ _)|(with_reducible refine Kd.bQ ?_)));(case dh=>exact gu.out);(case dK=>repeat (first|exact (Kd.bz fH.out HB.out)|(with_reducible refine Kd.bA ?_ _)|(with_reducible refine Kd.bB ?_ _)|(with_reducible refine Kd.bQ ?_)));(case dL=>exact gz.out);rintro e w44 ⟨rfl,hb⟩;refine ⟨_,rfl,?_⟩;replace ek:=bC ek hb;replace fC:=bC fC hb;replace gG:=bC gG hb;replace HB:=dw HB hb;(try clear hb);(try clear hb2);(try clear hk);(try clear hi))|((with_reducible refine aG (N:=15) rfl ?_);refine az (by rfl) (N:=15) (by rfl) (cs:=#[U Z 0,U Z 0,U Z 0,U Z 0]) (t:=31) fM ?_;intro iM hg w45 hbox hb;have vX:=aa.mk (hbox);have aCj:=dn HB hg;have aCk:=dn HB hg;have Ou:=iq ek hg;have Ov:=iw ek hg;have Ow:=iq fC hg;have Ox:=iw fC hg;have Oy:=iq gG hg;have Oz:=iw gG hg;replace ek:=bC ek hb;replace fC:=bC fC hb;replace gG:=bC gG hb;replace HB:=dw HB hb;clear hb hbox hg;have aik:=Ov.out;have ail:=Ou.out;have aim:=Ox.out;have ain:=Ow.out;have as0:=Oz.out;have as1:=Oy.out;obtain ⟨Vf,Vg,Vh,Vi,Vj,Vk,Vl,Vm⟩:=gD vX.out))
               have x9:aa (((((w45.setCell ⟨iM,0,none⟩ (U Z xN)).setCell ⟨iM,1,none⟩ (U Z zY)).setCell ⟨iM,2,none⟩ (U Z BO)).setCell ⟨iM,3,none⟩ (U Z DV)).heap[Po]? = some (.cells #[U Z ah,U Z ai,U Z ax,U Z ay,U Z aK,U Z aH,U Z aJ,.slice dG aR.length dH,.slice dJ aC.length dI] 25 (0,0))):=⟨fB⟩
               have yc:aa (((((w45.setCell ⟨iM,0,none⟩ (U Z xN)).setCell ⟨iM,1,none⟩ (U Z zY)).setCell ⟨iM,2,none⟩ (U Z BO)).setCell ⟨iM,3,none⟩ (U Z DV)).heap[Pp]? = some (.cells #[U Z aQ,U Z aM,U Z bf,U Z bg,U Z bD,U Z bE,U Z bF] 29 (0,0))):=⟨fB⟩
               have yf:aa (((((w45.setCell ⟨iM,0,none⟩ (U Z xN)).setCell ⟨iM,1,none⟩ (U Z zY)).setCell ⟨iM,2,none⟩ (U Z BO)).setCell ⟨iM,3,none⟩ (U Z DV)).heap[Pq]? = some (.cells #[U Z iD,U Z gZ,U Z gN,U Z gL] 31 (0,0))):=⟨fB⟩
               have yg:aa (((((w45.setCell ⟨iM,0,none⟩ (U Z xN)).setCell ⟨iM,1,none⟩ (U Z zY)).setCell ⟨iM,2,none⟩ (U Z BO)).setCell ⟨iM,3,none⟩ (U Z DV)).heap[iM]? = some (.cells #[U Z xN,U Z zY,U Z BO,U Z DV] 31 (0,0))):=⟨by (with_reducible repeat (first|refine au ?_ _|refine ag ?_|refine ae ?_ _));refine aI (cs:=#[U Z xN,U Z zY,U Z BO,U Z 0]) ?_ 3 _ rfl;(with_reducible repeat (first|refine au ?_ _|refine ag ?_|refine ae ?_ _));refine aI (cs:=#[U Z xN,U Z zY,U Z 0,U Z 0]) ?_ 2 _ rfl;(with_reducible repeat (first|refine au ?_ _|refine ag ?_|refine ae ?_ _));refine aI (cs:=#[U Z xN,U Z 0,U Z 0,U Z 0]) ?_ 1 _ rfl;(with_reducible repeat (first|refine au ?_ _|refine ag ?_|refine ae ?_ _));refine aI (cs:=#[U Z 0,U Z 0,U Z 0,U Z 0]) ?_ 0 _ rfl;(with_reducible repeat (first|refine au ?_ _|refine ag ?_|refine ae ?_ _));exact vX.out⟩
               have Bf:aa (Below w.heap.size w ((((w45.setCell ⟨iM,0,none⟩ (U Z xN)).setCell ⟨iM,1,none⟩ (U Z zY)).setCell ⟨iM,2,none⟩ (U Z BO)).setCell ⟨iM,3,none⟩ (U Z DV))):=⟨fu⟩
               (try clear ek)
               (try clear fC)
               (try clear gG)
               (try clear vX)
               (try clear HB)
               generalize ((((w45.setCell ⟨iM,0,none⟩ (U Z xN)).setCell ⟨iM,1,none⟩ (U Z zY)).setCell ⟨iM,2,none⟩ (U Z BO)).setCell ⟨iM,3,none⟩ (U Z DV)) = w50 at x9 yc yf yg Bf ⊢
               have ek:=x9
               have fC:=yc
               have gG:=yf
               have vX:=yg
               have HB:=Bf
               clear x9 yc yf yg Bf
               replace ek:=aa.mk (ag ek.out)
               replace fC:=aa.mk (ag fC.out)
               replace gG:=aa.mk (ag gG.out)
               replace vX:=aa.mk (ag vX.out)
               replace HB:=aa.mk (bU HB.out)
               refine jT (n:=11) (S:=fun w'=>True) (ds:=[]) #[ac,ac,ac,ac,ac,ac,ac,ac,ac,ac,ac] aY rfl rfl trivial (fun hHeld=>?_);refine jg aA.at6 aA.ai8 (fun cO lS=>?_)
               generalize w50.drew = w51 at ek fC gG vX HB hHeld ⊢
               refine dW (i:=0) (N:=some 75) (aU cO.out aY) ?_
               refine dW (i:=1) (N:=some 76) (aU cO.out aY) ?_
               refine jR (i:=2) (N:=some 77) (v:=undef) (a':=?_) #[ab,ab,ab,ac,ac,ac,ac,ac,ac,ac,ac] rfl rfl (aU cO.out aY) (fun _ _ _ h=>h) (Or.inr ⟨by rfl,rfl⟩) ?_ ?_
               rotate_left
               ·simp only [Act.put,List.setIfInBounds_toArray,List.set_cons_zero,List.set_cons_succ,eB,eH]
                rfl
               refine jR (i:=3) (N:=some 78) (v:=undef) (a':=?_) #[ab,ab,ab,ab,ac,ac,ac,ac,ac,ac,ac] rfl rfl (aU cO.out aY) (fun _ _ _ h=>h) (Or.inr ⟨by rfl,rfl⟩) ?_ ?_
               rotate_left
               ·simp only [Act.put,List.setIfInBounds_toArray,List.set_cons_zero,List.set_cons_succ,eB,eH]
                rfl
               refine jR (i:=4) (N:=some 79) (v:=undef) (a':=?_) #[ab,ab,ab,ab,ab,ac,ac,ac,ac,ac,ac] rfl rfl (aU cO.out aY) (fun _ _ _ h=>h) (Or.inr ⟨by rfl,rfl⟩) ?_ ?_
               rotate_left
               ·simp only [Act.put,List.setIfInBounds_toArray,List.set_cons_zero,List.set_cons_succ,eB,eH]
                rfl
               refine jR (i:=5) (N:=some 80) (v:=undef) (a':=?_) #[ab,ab,ab,ab,ab,ab,ac,ac,ac,ac,ac] rfl rfl (aU cO.out aY) (fun _ _ _ h=>h) (Or.inr ⟨by rfl,rfl⟩) ?_ ?_
               rotate_left
               ·simp only [Act.put,List.setIfInBounds_toArray,List.set_cons_zero,List.set_cons_succ,eB,eH]
                rfl
               refine jR (i:=6) (N:=some 81) (v:=undef) (a':=?_) #[ab,ab,ab,ab,ab,ab,ab,ac,ac,ac,ac] rfl rfl (aU cO.out aY) (fun _ _ _ h=>h) (Or.inr ⟨by rfl,rfl⟩) ?_ ?_
               rotate_left
               ·simp only [Act.put,List.setIfInBounds_toArray,List.set_cons_zero,List.set_cons_succ,eB,eH]
                rfl
               refine jR (i:=7) (N:=some 82) (v:=undef) (a':=?_) #[ab,ab,ab,ab,ab,ab,ab,ab,ac,ac,ac] rfl rfl (aU cO.out aY) (fun _ _ _ h=>h) (Or.inr ⟨by rfl,rfl⟩) ?_ ?_
               rotate_left
               ·simp only [Act.put,List.setIfInBounds_toArray,List.set_cons_zero,List.set_cons_succ,eB,eH]
                rfl
               refine jR (i:=8) (N:=some 83) (v:=undef) (a':=?_) #[ab,ab,ab,ab,ab,ab,ab,ab,ab,ac,ac] rfl rfl (aU cO.out aY) (fun _ _ _ h=>h) (Or.inr ⟨by rfl,rfl⟩) ?_ ?_
               rotate_left
               ·simp only [Act.put,List.setIfInBounds_toArray,List.set_cons_zero,List.set_cons_succ,eB,eH]
                rfl
               refine dW (i:=9) (N:=some 84) (aU cO.out aY) ?_
               refine dW (i:=10) (N:=some 11) (aU cO.out aY) ?_
               refine lI (lN cO.out aY) ?_
               try go_wp2
               go_roundg k3
               case measure=>have:=G5.out;have:=Vo.out;have:=Yd.out;omega
               case rel=>exact ⟨(true),(wrap64 (fF+1)),mg,mg,H',⟨af2⟩,⟨fB⟩,⟨fB⟩,⟨fB⟩,⟨fu⟩⟩
              ·replace c37:=Bool.eq_false_iff.mpr c37
               subst c37
               have H1:(if 0≤cK then (if cK < (l4.length:Int) then ((jl.f k3 xN zY BO DV ((bq l4 cK).f0.f0) ((bq l4 cK).f0.f1) ((bq l4 cK).f1.f0) ((bq l4 cK).f1.f1)).bind fun WB=>(aA.l2 k3 a3 l4 (WB != 2) cK sF (wrap64 (fF+1)) ah ai ax ay aK aH aJ aR aC aQ aM bf bg bD bE bF iD gZ gN gL)) else (none)) else (none)) = some r:=by rw [if_neg (show ¬ (false = true) by decide)] at H;exact H
               clear H
               have H:=H1
               clear H1
               by_cases c52:0≤cK
               ·rw [if_pos c52] at H
                have aSk:decide (0≤cK) = true:=decide_eq_true c52
                clear c52
                by_cases c53:cK < (l4.length:Int)
                ·rw [if_pos c53] at H
                 have aSl:decide (cK < (l4.length:Int)) = true:=decide_eq_true c53
                 clear c53
                 replace H:=Option.bind_eq_some_iff.mp H
                 obtain ⟨WB,aiR,H⟩:=H
                 replace H:(aA.l2 k3 a3 l4 (WB != 2) cK sF (wrap64 (fF+1)) ah ai ax ay aK aH aJ aR aC aQ aM bf bg bD bE bF iD gZ gN gL) = some r:=H
                 have A54:=aa.mk aiR
                 clear aiR
                 have H':=aa.mk H
                 clear H
                 have aCm:=nX.out
                 have aCn:=nY.out
                 have aiz:=nk.out
                 have aiA:=nu.out
                 obtain ⟨aqH,aqI,aLL,aLM,aLN,aLO,aLP,aLQ,aLR,aqJ,aqK,aLS,aLT,aLU,aLV,aLW,aLX,aLY⟩:=iH ek.out
                 have atP:=nZ.out
                 have atQ:=oh.out
                 obtain ⟨adV,adW,adX,adY,adZ,ad1,ad2,ad3,ad4,ad5,ad6,ad7,ad8,ad9⟩:=jb fC.out
                 obtain ⟨ab3,ab4,ab5,ab6,ab7,ab8,ab9,aca⟩:=gD gG.out
                 try go_wp2_with (first|((with_reducible refine aN (f:=106) rfl ?_);refine bT (some 74) rfl rfl Try.func106 aY rfl #[.agg #[U Z ah,U Z ai,U Z ax,U Z ay,U Z aK,U Z aH,U Z aJ,.slice dG aR.length dH,.slice dJ aC.length dI],.agg #[U Z aQ,U Z aM,U Z bf,U Z bg,U Z bD,U Z bE,U Z bF],.agg #[U Z iD,U Z gZ,U Z gN,U Z gL],U Z (wrap64 (a3+(wrap64 (cK*aM)))),.agg #[U Z sF,U Z fF]] rfl iG ?_;(with_reducible refine (cZ.calls k3 ah ai ax ay aK aH aJ _ _ aR _ _ aC aQ aM bf bg bD bE bF iD gZ gN gL (wrap64 (a3+(wrap64 (cK*aM)))) sF fF xN zY BO DV _ ?df ?dh ?dK ?dL A36.out).mono ?_);(case df=>repeat (first|exact (Kd.bz gq.out HB.out)|(with_reducible refine Kd.bA ?_ _)|(with_reducible refine Kd.bB ?_ _)|(with_reducible refine Kd.bQ ?_)));(case dh=>exact gu.out);(case dK=>repeat (first|exact (Kd.bz fH.out HB.out)|(with_reducible refine Kd.bA ?_ _)|(with_reducible refine Kd.bB ?_ _)|(with_reducible refine Kd.bQ ?_)));(case dL=>exact gz.out);rintro e w61 ⟨rfl,hb⟩;refine ⟨_,rfl,?_⟩;replace ek:=bC ek hb;replace fC:=bC fC hb;replace gG:=bC gG hb;replace HB:=dw HB hb;(try clear hb);(try clear hb2);(try clear hk);(try clear hi))|((with_reducible refine aG (N:=15) rfl ?_);refine az (by rfl) (N:=15) (by rfl) (cs:=#[U Z 0,U Z 0,U Z 0,U Z 0]) (t:=31) fM ?_;intro iM hg w62 hbox hb;have vX:=aa.mk (hbox);have aCj:=dn HB hg;have aCk:=dn HB hg;have Ou:=iq ek hg;have Ov:=iw ek hg;have Ow:=iq fC hg;have Ox:=iw fC hg;have Oy:=iq gG hg;have Oz:=iw gG hg;replace ek:=bC ek hb;replace fC:=bC fC hb;replace gG:=bC gG hb;replace HB:=dw HB hb;clear hb hbox hg;have as4:=Ov.out;have as5:=Ou.out;have as6:=Ox.out;have as7:=Ow.out;have azd:=Oz.out;have aze:=Oy.out;obtain ⟨aLZ,aL0,aL1,aL2,aL3,aL4,aL5,aL6⟩:=gD vX.out))
                 have x9:aa (((((w62.setCell ⟨iM,0,none⟩ (U Z xN)).setCell ⟨iM,1,none⟩ (U Z zY)).setCell ⟨iM,2,none⟩ (U Z BO)).setCell ⟨iM,3,none⟩ (U Z DV)).heap[Po]? = some (.cells #[U Z ah,U Z ai,U Z ax,U Z ay,U Z aK,U Z aH,U Z aJ,.slice dG aR.length dH,.slice dJ aC.length dI] 25 (0,0))):=⟨fB⟩
                 have yc:aa (((((w62.setCell ⟨iM,0,none⟩ (U Z xN)).setCell ⟨iM,1,none⟩ (U Z zY)).setCell ⟨iM,2,none⟩ (U Z BO)).setCell ⟨iM,3,none⟩ (U Z DV)).heap[Pp]? = some (.cells #[U Z aQ,U Z aM,U Z bf,U Z bg,U Z bD,U Z bE,U Z bF] 29 (0,0))):=⟨fB⟩
                 have yf:aa (((((w62.setCell ⟨iM,0,none⟩ (U Z xN)).setCell ⟨iM,1,none⟩ (U Z zY)).setCell ⟨iM,2,none⟩ (U Z BO)).setCell ⟨iM,3,none⟩ (U Z DV)).heap[Pq]? = some (.cells #[U Z iD,U Z gZ,U Z gN,U Z gL] 31 (0,0))):=⟨fB⟩
                 have yg:aa (((((w62.setCell ⟨iM,0,none⟩ (U Z xN)).setCell ⟨iM,1,none⟩ (U Z zY)).setCell ⟨iM,2,none⟩ (U Z BO)).setCell ⟨iM,3,none⟩ (U Z DV)).heap[iM]? = some (.cells #[U Z xN,U Z zY,U Z BO,U Z DV] 31 (0,0))):=⟨by (with_reducible repeat (first|refine au ?_ _|refine ag ?_|refine ae ?_ _));refine aI (cs:=#[U Z xN,U Z zY,U Z BO,U Z 0]) ?_ 3 _ rfl;(with_reducible repeat (first|refine au ?_ _|refine ag ?_|refine ae ?_ _));refine aI (cs:=#[U Z xN,U Z zY,U Z 0,U Z 0]) ?_ 2 _ rfl;(with_reducible repeat (first|refine au ?_ _|refine ag ?_|refine ae ?_ _));refine aI (cs:=#[U Z xN,U Z 0,U Z 0,U Z 0]) ?_ 1 _ rfl;(with_reducible repeat (first|refine au ?_ _|refine ag ?_|refine ae ?_ _));refine aI (cs:=#[U Z 0,U Z 0,U Z 0,U Z 0]) ?_ 0 _ rfl;(with_reducible repeat (first|refine au ?_ _|refine ag ?_|refine ae ?_ _));exact vX.out⟩
                 have Bf:aa (Below w.heap.size w ((((w62.setCell ⟨iM,0,none⟩ (U Z xN)).setCell ⟨iM,1,none⟩ (U Z zY)).setCell ⟨iM,2,none⟩ (U Z BO)).setCell ⟨iM,3,none⟩ (U Z DV))):=⟨fu⟩
                 (try clear ek)
                 (try clear fC)
                 (try clear gG)
                 (try clear vX)
                 (try clear HB)
                 generalize ((((w62.setCell ⟨iM,0,none⟩ (U Z xN)).setCell ⟨iM,1,none⟩ (U Z zY)).setCell ⟨iM,2,none⟩ (U Z BO)).setCell ⟨iM,3,none⟩ (U Z DV)) = w67 at x9 yc yf yg Bf ⊢
                 have ek:=x9
                 have fC:=yc
                 have gG:=yf
                 have vX:=yg
                 have HB:=Bf
                 clear x9 yc yf yg Bf
                 replace ek:=aa.mk (ag ek.out)
                 replace fC:=aa.mk (ag fC.out)
                 replace gG:=aa.mk (ag gG.out)
                 replace vX:=aa.mk (ag vX.out)
                 replace HB:=aa.mk (bU HB.out)
                 have av4:0≤(cK:Int):=of_decide_eq_true qN
                 have av5:cK < (l4.length:Int):=of_decide_eq_true qN
                 obtain ⟨RP,aO8,MS,MU,MV,MW⟩:=uz HR4.out cK av4 av5
                 have aea:=MW
                 have aeb:=MV
                 have aec:=MU
                 have aed:=MS
                 cases aO8
                 replace MS:=(HB.out.cell (World.block_lt_of_cell? w _ MS)).trans MS
                 replace MU:=(HB.out.cell (World.block_lt_of_cell? w _ MU)).trans MU
                 replace MV:=(HB.out.cell (World.block_lt_of_cell? w _ MV)).trans MV
                 replace MW:=(HB.out.cell (World.block_lt_of_cell? w _ MW)).trans MW
                 replace av4:=eq_true av4
                 replace av5:=eq_true av5
                 refine jT (n:=11) (S:=fun w'=>w'.cell? ⟨iM,0,none⟩ = some (U Z xN)∧w'.cell? ⟨iM,1,none⟩ = some (U Z zY)∧w'.cell? ⟨iM,2,none⟩ = some (U Z BO)∧w'.cell? ⟨iM,3,none⟩ = some (U Z DV)∧w'.cell? (RP.add ((cK).toNat*4)) = some (U Z ((bq l4 cK).f0.f0))∧w'.cell? ⟨(RP.add ((cK).toNat*4)).block,(RP.add ((cK).toNat*4)).off+1,none⟩ = some (U Z ((bq l4 cK).f0.f1))∧w'.cell? ⟨(RP.add ((cK).toNat*4)).block,(RP.add ((cK).toNat*4)).off+2,none⟩ = some (U Z ((bq l4 cK).f1.f0))∧w'.cell? ⟨(RP.add ((cK).toNat*4)).block,(RP.add ((cK).toNat*4)).off+3,none⟩ = some (U Z ((bq l4 cK).f1.f1))) (ds:=[]) #[ac,ac,ac,ac,ac,ac,ac,ac,ac,ac,ac] aY rfl rfl (Ye vX.out ⟨(uj HB aed),(uj HB aec),(uj HB aeb),(uj HB aea)⟩) (fun hHeld=>?_);refine jg aA.at6 aA.ai8 (fun cO lS=>?_)
                 generalize w67.drew = w68 at ek fC gG vX HB MS MU MV MW hHeld ⊢
                 refine dW (i:=0) (N:=some 75) (aU cO.out aY) ?_
                 refine dW (i:=1) (N:=some 76) (aU cO.out aY) ?_
                 refine dW (i:=3) (N:=some 78) (aU cO.out aY) ?_
                 refine dW (i:=4) (N:=some 79) (aU cO.out aY) ?_
                 refine dW (i:=5) (N:=some 80) (aU cO.out aY) ?_
                 refine ja (i:=2) (N:=some 77) (bS cO.out lS.out aY) hHeld ?_
                 refine ja (i:=6) (N:=some 81) (bS cO.out lS.out aY) hHeld ?_
                 refine jJ (i:=7) (N:=some 82) #[ab,ab,ab,ab,ab,ab,ab,ab,ac,ac,ac] rfl rfl (gM cO.out aY) (by decide) (fun K hK=>?_)
                 refine gQ Try.func43 aY rfl #[.agg #[U Z xN,U Z zY,U Z BO,U Z DV],.agg #[U Z ((bq l4 cK).f0.f0),U Z ((bq l4 cK).f0.f1),U Z ((bq l4 cK).f1.f0),U Z ((bq l4 cK).f1.f1)]] (by rfl) rfl rfl iG ?_
                 with_reducible refine (jl.calls k3 xN zY BO DV ((bq l4 cK).f0.f0) ((bq l4 cK).f0.f1) ((bq l4 cK).f1.f0) ((bq l4 cK).f1.f1) WB _ A54.out).mono ?_
                 rintro e w69 ⟨rfl,hb⟩
                 refine ⟨_,rfl,?_⟩
                 replace ek:=bC ek hb
                 replace fC:=bC fC hb
                 replace gG:=bC gG hb
                 replace vX:=bC vX hb
                 replace HB:=dw HB hb
                 (try clear hb)
                 (try clear hb2)
                 (try clear hk)
                 (try clear hi)
                 refine hK.out _ _ (Ye vX.out ⟨(uj HB aed),(uj HB aec),(uj HB aeb),(uj HB aea)⟩) (fun hHeld=>?_)
                 clear hK K
                 refine eY avX ?_
                 refine dW (i:=8) (N:=some 83) (aU cO.out aY) ?_
                 refine dW (i:=9) (N:=some 84) (aU cO.out aY) ?_
                 refine dW (i:=10) (N:=some 11) (aU cO.out aY) ?_
                 refine lI (lN cO.out aY) ?_
                 try go_wp2
                 go_roundg k3
                 case measure=>have:=G5.out;have:=Vo.out;have:=Yd.out;omega
                 case rel=>exact ⟨((WB != 2)),(wrap64 (fF+1)),mg,mg,H',⟨af2⟩,⟨fB⟩,⟨fB⟩,⟨fB⟩,⟨fu⟩⟩
                ·rw [if_neg c53] at H
                 exact absurd H (by simp)
               ·rw [if_neg c52] at H
                exact absurd H (by simp)
             ·rw [if_neg c35] at H
              have aCf:decide (fF < aH) = false:=decide_eq_false c35
              clear c35
              have H':=aa.mk H
              clear H
              have azh:=nX.out
              have azi:=nY.out
              have as8:=nk.out
              have as9:=nu.out
              obtain ⟨anM,anN,anO,anP,anQ,anR,anS,anT,anU,anV,anW,anX,anY,anZ,an0,an1,an2,an3⟩:=iH ek.out
              go_wp2
              go_roundg k3
              case measure=>have:=G5.out;have:=Vo.out;have:=Yd.out;omega
              case rel=>exact ⟨(Ue),(wrap64 (sF+1)),mg,mg,H',⟨af2⟩,⟨fB⟩,⟨fB⟩,⟨fB⟩,⟨fu⟩⟩
          ·rw [if_neg c34] at H
           have at7:decide (sF < 9) = false:=decide_eq_false c34
           clear c34
           by_cases Yp:0≤cK
           ·rw [if_pos Yp] at H
            have aua:decide (0≤cK) = true:=decide_eq_true Yp
            clear Yp
            by_cases c74:cK < (l4.length:Int)
            ·rw [if_pos c74] at H
             have aSm:decide (cK < (l4.length:Int)) = true:=decide_eq_true c74
             clear c74
             have H':=aa.mk H
             clear H
             have av6:0≤(cK:Int):=of_decide_eq_true qN
             have av7:cK < (l4.length:Int):=of_decide_eq_true qN
             obtain ⟨aSn,aO9,WI,WJ,WK,WL⟩:=uz HR4.out cK av6 av7
             cases aO9
             replace WI:=(HB.out.cell (World.block_lt_of_cell? w _ WI)).trans WI
             replace WJ:=(HB.out.cell (World.block_lt_of_cell? w _ WJ)).trans WJ
             replace WK:=(HB.out.cell (World.block_lt_of_cell? w _ WK)).trans WK
             replace WL:=(HB.out.cell (World.block_lt_of_cell? w _ WL)).trans WL
             replace av6:=eq_true av6
             replace av7:=eq_true av7
             have azm:=nu.out
             have azn:=nk.out
             have atc:=oh.out
             have atd:=nZ.out
             obtain ⟨an4,an5,an6,an7,an8,an9,aoa,aob⟩:=gD gG.out
             go_wp2
             go_roundg k2
             case measure=>have:=G5.out;have:=Vo.out;omega
             case rel=>exact ⟨(YN),(wrap64 (cK+1)),((bq l4 cK).f0.f0),((bq l4 cK).f0.f1),((bq l4 cK).f1.f0),((bq l4 cK).f1.f1),mg,mg,H',⟨by have:=G5.out;have:=Vo.out;omega⟩,⟨fB⟩,⟨fB⟩,⟨by (with_reducible repeat (first|refine au ?_ _|refine ag ?_|refine ae ?_ _));refine aI (cs:=#[U Z ((bq l4 cK).f0.f0),U Z ((bq l4 cK).f0.f1),U Z ((bq l4 cK).f1.f0),U Z gL]) ?_ 3 _ rfl;(with_reducible repeat (first|refine au ?_ _|refine ag ?_|refine ae ?_ _));refine aI (cs:=#[U Z ((bq l4 cK).f0.f0),U Z ((bq l4 cK).f0.f1),U Z gN,U Z gL]) ?_ 2 _ rfl;(with_reducible repeat (first|refine au ?_ _|refine ag ?_|refine ae ?_ _));refine aI (cs:=#[U Z ((bq l4 cK).f0.f0),U Z gZ,U Z gN,U Z gL]) ?_ 1 _ rfl;(with_reducible repeat (first|refine au ?_ _|refine ag ?_|refine ae ?_ _));refine aI (cs:=#[U Z iD,U Z gZ,U Z gN,U Z gL]) ?_ 0 _ rfl;(with_reducible repeat (first|refine au ?_ _|refine ag ?_|refine ae ?_ _));exact gG.out⟩,⟨fu⟩⟩
            ·rw [if_neg c74] at H
             exact absurd H (by simp)
           ·rw [if_neg Yp] at H
            exact absurd H (by simp)
       ·replace K3:=Bool.eq_false_iff.mpr K3
        subst K3
        have H1:(some 5) = some r:=by rw [if_neg (show ¬ (false = true) by decide)] at H;exact H
        clear H
        have H:=H1
        clear H1
        obtain rfl:=Option.some.inj H
        have aiB:=nX.out
        have aiC:=nY.out
        have abD:=nk.out
        have abE:=nu.out
        obtain ⟨aoc,aod,aoe,aof,aL8,aL9,aMa,aMb,aMc,aog,aoh,aoi,aoj,aMd,aMe,aMf,aMg,aMh⟩:=iH ek.out
        have ayz:=nZ.out
        have ayA:=oh.out
        obtain ⟨amt,amu,amv,amw,amx,amy,amz,amA,amB,amC,amD,amE,amF,amG⟩:=jb fC.out
        obtain ⟨aMi,aMj,aMk,aMl,aMm,aMn,aMo,aMp⟩:=gD gG.out
        go_wp2_with (first|((with_reducible refine aN (f:=105) rfl ?_);refine bT (some 50) rfl rfl Try.func105 aY rfl #[.agg #[U Z ah,U Z ai,U Z ax,U Z ay,U Z aK,U Z aH,U Z aJ,.slice dG aR.length dH,.slice dJ aC.length dI],.agg #[U Z aQ,U Z aM,U Z bf,U Z bg,U Z bD,U Z bE,U Z bF],.agg #[U Z iD,U Z gZ,U Z gN,U Z gL],U Z (wrap64 (a3+(wrap64 (cK*aM))))] rfl iG ?_;(with_reducible refine (dx.calls k1 ah ai ax ay aK aH aJ _ _ aR _ _ aC aQ aM bf bg bD bE bF iD gZ gN gL (wrap64 (a3+(wrap64 (cK*aM)))) false _ ?df ?dh ?dK ?dL A25.out).mono ?_);(case df=>repeat (first|exact (Kd.bz gq.out HB.out)|(with_reducible refine Kd.bA ?_ _)|(with_reducible refine Kd.bB ?_ _)|(with_reducible refine Kd.bQ ?_)));(case dh=>exact gu.out);(case dK=>repeat (first|exact (Kd.bz fH.out HB.out)|(with_reducible refine Kd.bA ?_ _)|(with_reducible refine Kd.bB ?_ _)|(with_reducible refine Kd.bQ ?_)));(case dL=>exact gz.out);rintro e w84 ⟨rfl,hb⟩;refine ⟨_,rfl,?_⟩;replace ek:=bC ek hb;replace fC:=bC fC hb;replace gG:=bC gG hb;replace HB:=dw HB hb;(try clear hb);(try clear hb2);(try clear hk);(try clear hi)))
        go_ret
        exact ⟨kL,fu⟩
      ·rw [if_neg c24] at H
       have Ph:decide (cK < (l4.length:Int)) = false:=decide_eq_false c24
       clear c24
       by_cases c85:RO = true
       ·subst c85
        have H1:(some 16) = some r:=by rw [if_pos rfl] at H;exact H
        clear H
        have H:=H1
        clear H1
        obtain rfl:=Option.some.inj H
        go_wp2
        go_ret
        exact ⟨kL,fu⟩
       ·replace c85:=Bool.eq_false_iff.mpr c85
        subst c85
        have H1:(some 0) = some r:=by rw [if_neg (show ¬ (false = true) by decide)] at H;exact H
        clear H
        have H:=H1
        clear H1
        obtain rfl:=Option.some.inj H
        go_wp2
        go_ret
        exact ⟨kL,fu⟩
   ·rw [if_neg c11] at H
    have GN:(Kb == 0) = false:=beq_eq_false_iff_ne.mpr c11
    have adK:(Kb != 0) = true:=bne_iff_ne.mpr c11
    replace H:=Option.bind_eq_some_iff.mp H
    obtain ⟨PT,aCo,H⟩:=H
    replace H:(some PT) = some r:=H
    have A86:=aa.mk aCo
    clear aCo
    obtain rfl:=Option.some.inj H
    go_enter Try.func55,Try.ntmps55
    go_wp2_with (first|((with_reducible refine aG (N:=5) rfl ?_);refine az (by rfl) (N:=5) (by rfl) (cs:=#[U Z ah,U Z ai,U Z ax,U Z ay,U Z aK,U Z aH,U Z aJ,.slice dG aR.length dH,.slice dJ aC.length dI]) (t:=25) fM ?_;intro Po hg w87 hbox hb;have ek:=aa.mk (hbox);have ai9:=dn HB hg;have aja:=dn HB hg;replace HB:=dw HB hb;clear hb hbox hg)|((with_reducible refine aG (N:=6) rfl ?_);refine az (by rfl) (N:=6) (by rfl) (cs:=#[U Z aQ,U Z aM,U Z bf,U Z bg,U Z bD,U Z bE,U Z bF]) (t:=29) fM ?_;intro Pp hg w88 hbox hb;have fC:=aa.mk (hbox);have ajb:=dn HB hg;have ajc:=dn HB hg;have nX:=iq ek hg;have nY:=iw ek hg;replace ek:=bC ek hb;replace HB:=dw HB hb;clear hb hbox hg)|((with_reducible refine aG (N:=7) rfl ?_);refine az (by rfl) (N:=7) (by rfl) (cs:=#[U Z bJ,U Z bK,U Z bM,U Z bN]) (t:=31) fM ?_;intro Pq hg w89 hbox hb;have gG:=aa.mk (hbox);have ajd:=dn HB hg;have aje:=dn HB hg;have nk:=iq ek hg;have nu:=iw ek hg;have nZ:=iq fC hg;have oh:=iw fC hg;replace ek:=bC ek hb;replace fC:=bC fC hb;replace HB:=dw HB hb;clear hb hbox hg;have ayB:=nX.out;have ayC:=nY.out;have ayD:=nk.out;have ayE:=nu.out;obtain ⟨aqL,aqM,aqN,aqO,aqP,aqQ,aqR,aqS,aqT,aqU,aqV,aqW,aqX,aqY,aqZ,aq0,aq1,aq2⟩:=iH ek.out;have azZ:=nZ.out;have az0:=oh.out;obtain ⟨aq3,aq4,aq5,aq6,aMq,aMr,aMs,aq7,aq8,aq9,ara,aMt,aMu,aMv⟩:=jb fC.out)|((with_reducible refine aN (f:=79) rfl ?_);refine bT (some 18) rfl rfl Try.func79 aY rfl #[.agg #[U Z ah,U Z ai,U Z ax,U Z ay,U Z aK,U Z aH,U Z aJ,.slice dG aR.length dH,.slice dJ aC.length dI],.agg #[U Z aQ,U Z aM,U Z bf,U Z bg,U Z bD,U Z bE,U Z bF]] rfl iG ?_;(with_reducible refine (bX.calls k ah ai ax ay aK aH aJ _ _ aR _ _ aC aQ aM bf bg bD bE bF MR _ ?df ?dh ?dK ?dL A6.out).mono ?_);(case df=>repeat (first|exact (Kd.bz gq.out HB.out)|(with_reducible refine Kd.bA ?_ _)|(with_reducible refine Kd.bB ?_ _)|(with_reducible refine Kd.bQ ?_)));(case dh=>exact gu.out);(case dK=>repeat (first|exact (Kd.bz fH.out HB.out)|(with_reducible refine Kd.bA ?_ _)|(with_reducible refine Kd.bB ?_ _)|(with_reducible refine Kd.bQ ?_)));(case dL=>exact gz.out);rintro e w95 ⟨rfl,hb⟩;refine ⟨_,rfl,?_⟩;replace ek:=bC ek hb;replace fC:=bC fC hb;replace gG:=bC gG hb;replace HB:=dw HB hb;(try clear hb);(try clear hb2);(try clear hk);(try clear hi);obtain ⟨am9,ana,anb,anc,ane,anf,ang,anh⟩:=gD gG.out)|((with_reducible refine aN (f:=80) rfl ?_);refine bT (some 25) rfl rfl Try.func80 aY rfl #[.agg #[U Z bJ,U Z bK,U Z bM,U Z bN],U Z a3] rfl iG ?_;(with_reducible refine (bI.calls bJ bK bM bN a3 KL _ A8.out).mono ?_);rintro e w97 ⟨rfl,hb⟩;refine ⟨_,rfl,?_⟩;replace ek:=bC ek hb;replace fC:=bC fC hb;replace gG:=bC gG hb;replace HB:=dw HB hb;(try clear hb);(try clear hb2);(try clear hk);(try clear hi))|((with_reducible refine aN (f:=90) rfl ?_);refine bT (some 31) rfl rfl Try.func90 aY rfl #[.slice A4 l4.length c4] rfl iG ?_;(with_reducible refine (cz.calls k _ _ l4 Kb _ ?df ?dh TH.out).mono ?_);(case df=>repeat (first|exact (Kd.bz HR4.out HB.out)|(with_reducible refine Kd.bA ?_ _)|(with_reducible refine Kd.bB ?_ _)|(with_reducible refine Kd.bQ ?_)));(case dh=>exact HC4.out);rintro e w98 ⟨rfl,hb⟩;refine ⟨_,rfl,?_⟩;replace ek:=bC ek hb;replace fC:=bC fC hb;replace gG:=bC gG hb;replace HB:=dw HB hb;(try clear hb);(try clear hb2);(try clear hk);(try clear hi))|((with_reducible refine aN (f:=90) rfl ?_);refine bT (some 34) rfl rfl Try.func90 aY rfl #[.slice A4 l4.length c4] rfl iG ?_;(with_reducible refine (cz.calls k _ _ l4 PT _ ?df ?dh A86.out).mono ?_);(case df=>repeat (first|exact (Kd.bz HR4.out HB.out)|(with_reducible refine Kd.bA ?_ _)|(with_reducible refine Kd.bB ?_ _)|(with_reducible refine Kd.bQ ?_)));(case dh=>exact HC4.out);rintro e w99 ⟨rfl,hb⟩;refine ⟨_,rfl,?_⟩;replace ek:=bC ek hb;replace fC:=bC fC hb;replace gG:=bC gG hb;replace HB:=dw HB hb;(try clear hb);(try clear hb2);(try clear hk);(try clear hi)))
    go_ret
    exact ⟨kL,fu⟩
  ·rw [if_neg c9] at H
   have LM:(KL == 0) = false:=beq_eq_false_iff_ne.mpr c9
   have aaH:(KL != 0) = true:=bne_iff_ne.mpr c9
   replace H:=Option.bind_eq_some_iff.mp H
   obtain ⟨Tp,aub,H⟩:=H
   replace H:(some Tp) = some r:=H
   have FJ:=aa.mk aub
   clear aub
   obtain rfl:=Option.some.inj H
   go_enter Try.func55,Try.ntmps55
   go_wp2_with (first|((with_reducible refine aG (N:=5) rfl ?_);refine az (by rfl) (N:=5) (by rfl) (cs:=#[U Z ah,U Z ai,U Z ax,U Z ay,U Z aK,U Z aH,U Z aJ,.slice dG aR.length dH,.slice dJ aC.length dI]) (t:=25) fM ?_;intro Po hg aCp hbox hb;have ek:=aa.mk (hbox);have ai9:=dn HB hg;have aja:=dn HB hg;replace HB:=dw HB hb;clear hb hbox hg)|((with_reducible refine aG (N:=6) rfl ?_);refine az (by rfl) (N:=6) (by rfl) (cs:=#[U Z aQ,U Z aM,U Z bf,U Z bg,U Z bD,U Z bE,U Z bF]) (t:=29) fM ?_;intro Pp hg az9 hbox hb;have fC:=aa.mk (hbox);have ajb:=dn HB hg;have ajc:=dn HB hg;have nX:=iq ek hg;have nY:=iw ek hg;replace ek:=bC ek hb;replace HB:=dw HB hb;clear hb hbox hg)|((with_reducible refine aG (N:=7) rfl ?_);refine az (by rfl) (N:=7) (by rfl) (cs:=#[U Z bJ,U Z bK,U Z bM,U Z bN]) (t:=31) fM ?_;intro Pq hg aUO hbox hb;have gG:=aa.mk (hbox);have ajd:=dn HB hg;have aje:=dn HB hg;have nk:=iq ek hg;have nu:=iw ek hg;have nZ:=iq fC hg;have oh:=iw fC hg;replace ek:=bC ek hb;replace fC:=bC fC hb;replace HB:=dw HB hb;clear hb hbox hg;have aPa:=nX.out;have aPb:=nY.out;have aPc:=nk.out;have aPd:=nu.out;obtain ⟨aCq,aCr,aCs,aCt,aCu,aCv,aCw,aCx,aCy,aCz,aCA,aCB,aCC,aCD,aCE,aCF,aCG,aCH⟩:=iH ek.out;have aPe:=nZ.out;have aPf:=oh.out;obtain ⟨aCI,aCJ,aCK,aCL,aCM,aCN,aCO,aCP,aCQ,aCR,aCS,aCT,aCU,aCV⟩:=jb fC.out)|((with_reducible refine aN (f:=79) rfl ?_);refine bT (some 18) rfl rfl Try.func79 aY rfl #[.agg #[U Z ah,U Z ai,U Z ax,U Z ay,U Z aK,U Z aH,U Z aJ,.slice dG aR.length dH,.slice dJ aC.length dI],.agg #[U Z aQ,U Z aM,U Z bf,U Z bg,U Z bD,U Z bE,U Z bF]] rfl iG ?_;(with_reducible refine (bX.calls k ah ai ax ay aK aH aJ _ _ aR _ _ aC aQ aM bf bg bD bE bF MR _ ?df ?dh ?dK ?dL A6.out).mono ?_);(case df=>repeat (first|exact (Kd.bz gq.out HB.out)|(with_reducible refine Kd.bA ?_ _)|(with_reducible refine Kd.bB ?_ _)|(with_reducible refine Kd.bQ ?_)));(case dh=>exact gu.out);(case dK=>repeat (first|exact (Kd.bz fH.out HB.out)|(with_reducible refine Kd.bA ?_ _)|(with_reducible refine Kd.bB ?_ _)|(with_reducible refine Kd.bQ ?_)));(case dL=>exact gz.out);rintro e aAm ⟨rfl,hb⟩;refine ⟨_,rfl,?_⟩;replace ek:=bC ek hb;replace fC:=bC fC hb;replace gG:=bC gG hb;replace HB:=dw HB hb;(try clear hb);(try clear hb2);(try clear hk);(try clear hi);obtain ⟨aCW,aCX,aCY,aCZ,aC0,aC1,aC2,aC3⟩:=gD gG.out)|((with_reducible refine aN (f:=80) rfl ?_);refine bT (some 25) rfl rfl Try.func80 aY rfl #[.agg #[U Z bJ,U Z bK,U Z bM,U Z bN],U Z a3] rfl iG ?_;(with_reducible refine (bI.calls bJ bK bM bN a3 KL _ A8.out).mono ?_);rintro e aUP ⟨rfl,hb⟩;refine ⟨_,rfl,?_⟩;replace ek:=bC ek hb;replace fC:=bC fC hb;replace gG:=bC gG hb;replace HB:=dw HB hb;(try clear hb);(try clear hb2);(try clear hk);(try clear hi);obtain ⟨aC4,aC5,aC6,aC7,aC8,aC9,aDa,aDb⟩:=gD gG.out)|((with_reducible refine aN (f:=80) rfl ?_);refine bT (some 29) rfl rfl Try.func80 aY rfl #[.agg #[U Z bJ,U Z bK,U Z bM,U Z bN],U Z a3] rfl iG ?_;(with_reducible refine (bI.calls bJ bK bM bN a3 Tp _ FJ.out).mono ?_);rintro e aUQ ⟨rfl,hb⟩;refine ⟨_,rfl,?_⟩;replace ek:=bC ek hb;replace fC:=bC fC hb;replace gG:=bC gG hb;replace HB:=dw HB hb;(try clear hb);(try clear hb2);(try clear hk);(try clear hi)))
   go_ret
   exact ⟨kL,fu⟩
 ·rw [if_neg c7] at H
  have Kw:(MR == 0) = false:=beq_eq_false_iff_ne.mpr c7
  have Wy:(MR != 0) = true:=bne_iff_ne.mpr c7
  replace H:=Option.bind_eq_some_iff.mp H
  obtain ⟨YM,auc,H⟩:=H
  replace H:(some YM) = some r:=H
  have aPg:=aa.mk auc
  clear auc
  obtain rfl:=Option.some.inj H
  go_enter Try.func55,Try.ntmps55
  go_wp2_with (first|((with_reducible refine aG (N:=5) rfl ?_);refine az (by rfl) (N:=5) (by rfl) (cs:=#[U Z ah,U Z ai,U Z ax,U Z ay,U Z aK,U Z aH,U Z aJ,.slice dG aR.length dH,.slice dJ aC.length dI]) (t:=25) fM ?_;intro Po hg aUR hbox hb;have ek:=aa.mk (hbox);have ai9:=dn HB hg;have aja:=dn HB hg;replace HB:=dw HB hb;clear hb hbox hg)|((with_reducible refine aG (N:=6) rfl ?_);refine az (by rfl) (N:=6) (by rfl) (cs:=#[U Z aQ,U Z aM,U Z bf,U Z bg,U Z bD,U Z bE,U Z bF]) (t:=29) fM ?_;intro Pp hg aUS hbox hb;have fC:=aa.mk (hbox);have ajb:=dn HB hg;have ajc:=dn HB hg;have nX:=iq ek hg;have nY:=iw ek hg;replace ek:=bC ek hb;replace HB:=dw HB hb;clear hb hbox hg)|((with_reducible refine aG (N:=7) rfl ?_);refine az (by rfl) (N:=7) (by rfl) (cs:=#[U Z bJ,U Z bK,U Z bM,U Z bN]) (t:=31) fM ?_;intro Pq hg aOQ hbox hb;have gG:=aa.mk (hbox);have ajd:=dn HB hg;have aje:=dn HB hg;have nk:=iq ek hg;have nu:=iw ek hg;have nZ:=iq fC hg;have oh:=iw fC hg;replace ek:=bC ek hb;replace fC:=bC fC hb;replace HB:=dw HB hb;clear hb hbox hg;have av0:=nX.out;have av1:=nY.out;have aPh:=nk.out;have aPi:=nu.out;obtain ⟨aDc,aDd,aDe,aDf,aDg,aDh,aDi,aDj,aDk,aDl,aDm,aDn,aDo,aDp,aDq,aDr,aDs,aDt⟩:=iH ek.out;have aPj:=nZ.out;have aPk:=oh.out;obtain ⟨aDu,aDv,aDw,aDx,aDy,aDz,aDA,aDB,aDC,aDD,aDE,aDF,aDG,aDH⟩:=jb fC.out)|((with_reducible refine aN (f:=79) rfl ?_);refine bT (some 18) rfl rfl Try.func79 aY rfl #[.agg #[U Z ah,U Z ai,U Z ax,U Z ay,U Z aK,U Z aH,U Z aJ,.slice dG aR.length dH,.slice dJ aC.length dI],.agg #[U Z aQ,U Z aM,U Z bf,U Z bg,U Z bD,U Z bE,U Z bF]] rfl iG ?_;(with_reducible refine (bX.calls k ah ai ax ay aK aH aJ _ _ aR _ _ aC aQ aM bf bg bD bE bF MR _ ?df ?dh ?dK ?dL A6.out).mono ?_);(case df=>repeat (first|exact (Kd.bz gq.out HB.out)|(with_reducible refine Kd.bA ?_ _)|(with_reducible refine Kd.bB ?_ _)|(with_reducible refine Kd.bQ ?_)));(case dh=>exact gu.out);(case dK=>repeat (first|exact (Kd.bz fH.out HB.out)|(with_reducible refine Kd.bA ?_ _)|(with_reducible refine Kd.bB ?_ _)|(with_reducible refine Kd.bQ ?_)));(case dL=>exact gz.out);rintro e aUT ⟨rfl,hb⟩;refine ⟨_,rfl,?_⟩;replace ek:=bC ek hb;replace fC:=bC fC hb;replace gG:=bC gG hb;replace HB:=dw HB hb;(try clear hb);(try clear hb2);(try clear hk);(try clear hi);obtain ⟨aDI,aDJ,aDK,aDL,aDM,aDN,aDO,aDP,aDQ,aDR,aDS,aDT,aDU,aDV,aDW,aDX,aDY,aDZ⟩:=iH ek.out;obtain ⟨aD0,aD1,aD2,aD3,aD4,aD5,aD6,aD7,aD8,aD9,aEa,aEb,aEc,aEd⟩:=jb fC.out)|((with_reducible refine aN (f:=79) rfl ?_);refine bT (some 22) rfl rfl Try.func79 aY rfl #[.agg #[U Z ah,U Z ai,U Z ax,U Z ay,U Z aK,U Z aH,U Z aJ,.slice dG aR.length dH,.slice dJ aC.length dI],.agg #[U Z aQ,U Z aM,U Z bf,U Z bg,U Z bD,U Z bE,U Z bF]] rfl iG ?_;(with_reducible refine (bX.calls k ah ai ax ay aK aH aJ _ _ aR _ _ aC aQ aM bf bg bD bE bF YM _ ?df ?dh ?dK ?dL aPg.out).mono ?_);(case df=>repeat (first|exact (Kd.bz gq.out HB.out)|(with_reducible refine Kd.bA ?_ _)|(with_reducible refine Kd.bB ?_ _)|(with_reducible refine Kd.bQ ?_)));(case dh=>exact gu.out);(case dK=>repeat (first|exact (Kd.bz fH.out HB.out)|(with_reducible refine Kd.bA ?_ _)|(with_reducible refine Kd.bB ?_ _)|(with_reducible refine Kd.bQ ?_)));(case dL=>exact gz.out);rintro e aOS ⟨rfl,hb⟩;refine ⟨_,rfl,?_⟩;replace ek:=bC ek hb;replace fC:=bC fC hb;replace gG:=bC gG hb;replace HB:=dw HB hb;(try clear hb);(try clear hb2);(try clear hk);(try clear hi)))
  go_ret
  exact ⟨kL,fu⟩
end Go.Proofs.Ytmhaiihjfgfaoaa.Pr
end
